/- Plain laws on lists and numbers, for FnExactColorHolds. No conditions beyond those stated. -/
import Derived.Test.YtcofdgeelojebaaCLawsFnExactColorHolds
import Derived.Test.YtcofdgeelojebaaAImplColorHolds
import Derived.Test.YtcofdgeelojebaaPBase
import Derived.Test.YtcofdgeelojebaaA0
import Derived.Test.YtcofdgeelojebaaAImplColoredValid
import Derived.Test.YtcofdgeelojebaaAImplColorsOk
import Derived.Test.YtcofdgeelojebaaAImplHeapValid
import Derived.Test.YtcofdgeelojebaaASpecHeapValid
import Derived.Test.YtcofdgeelojebaaASpecL1Points
import Derived.Test.YtcofdgeelojebaaASpecColorHolds
import Derived.Test.YtcofdgeelojebaaASpecColoredValid
import Derived.Test.YtcofdgeelojebaaALawsEqColored
import Derived.Test.YtcofdgeelojebaaALawsEqIntS
import Derived.Test.YtcofdgeelojebaaALawsEqHeap
import Derived.Test.YtcofdgeelojebaaALawsSzColored
import Derived.Test.YtcofdgeelojebaaALawsSzHeap
import Derived.Test.YtcofdgeelojebaaALawsSzIntS
import Derived.Test.YtcofdgeelojebaaALawsToColored
import Derived.Test.YtcofdgeelojebaaALawsToHeap
import Derived.Test.YtcofdgeelojebaaALawsToIntS
namespace Go.Proofs.Ytcofdgeelojebaa.A
open Go.RowKit Go.Proofs.YtcofdgeelojebaaW.PrintWords Go.Proofs.YtcofdgeelojebaaW.PrintLast Go.Proofs.YtcofdgeelojebaaW.PrintMore
attribute [local go_sem] max2_int min2_int max_two min_two max_three min_three max_four min_four   -- for this text's walks alone
set_option linter.unusedVariables false
set_option linter.unusedSimpArgs false
/-- A pointer of a heap of n cells. -/
def okp (n : Nat) (x : Int) : Bool := decide (-1 ≤ x ∧ x < (n : Int))
def hv (a b c : List Int) : Bool := decide (a.length = b.length ∧ 1 ≤ a.length ∧ a.length ≤ 8 ∧ 1 ≤ c.length ∧ c.length ≤ 3) && (a.all (okp a.length) && (b.all (okp a.length) && c.all (okp a.length)))
theorem hv_len {a b c : List Int} (h : hv a b c = true) : a.length = b.length ∧ 1 ≤ a.length ∧ a.length ≤ 8 ∧ 1 ≤ c.length ∧ c.length ≤ 3 := by
  unfold hv at h
  rw [Bool.and_eq_true] at h
  exact of_decide_eq_true h.1
theorem okp_iff {n : Nat} {x : Int} : okp n x = true ↔ -1 ≤ x ∧ x < (n : Int) := by unfold okp; exact decide_eq_true_iff
theorem hv_iff {a b c : List Int} : hv a b c = true ↔ (a.length = b.length ∧ 1 ≤ a.length ∧ a.length ≤ 8 ∧ 1 ≤ c.length ∧ c.length ≤ 3) ∧ (∀ x ∈ a, -1 ≤ x ∧ x < (a.length : Int)) ∧ (∀ x ∈ b, -1 ≤ x ∧ x < (a.length : Int)) ∧ (∀ x ∈ c, -1 ≤ x ∧ x < (a.length : Int)) := by
  unfold hv
  simp only [Bool.and_eq_true, decide_eq_true_eq, List.all_eq_true, okp_iff]
theorem all_drop_cons (p : Int → Bool) (l : List Int) (n : Nat) (h : n < l.length) : (l.drop n).all p = (p (rd l (n : Int)) && (l.drop (n + 1)).all p) := by
  rw [drop_rd l n h, List.all_cons]
theorem all_drop_nil (p : Int → Bool) (l : List Int) (n : Nat) (h : l.length ≤ n) : (l.drop n).all p = true := by
  rw [List.drop_eq_nil_of_le h, List.all_nil]
/-- A cell of a valid heap. -/
def cellM (a b c : List Int) (x : Int) : Bool := hv a b c && decide (0 ≤ x ∧ x < (a.length : Int))
theorem cellM_iff {a b c : List Int} {x : Int} : cellM a b c x = true ↔ hv a b c = true ∧ 0 ≤ x ∧ x < (a.length : Int) := by
  unfold cellM; simp
def okc (x : Int) : Bool := decide (0 ≤ x ∧ x ≤ 2)
def cv (a b c e : List Int) : Bool := hv a b c && (e.all okc && decide (e.length = a.length))
theorem okc_iff {x : Int} : okc x = true ↔ 0 ≤ x ∧ x ≤ 2 := by unfold okc; exact decide_eq_true_iff
theorem cv_iff {a b c e : List Int} : cv a b c e = true ↔ hv a b c = true ∧ (∀ x ∈ e, 0 ≤ x ∧ x ≤ 2) ∧ e.length = a.length := by
  unfold cv
  simp only [Bool.and_eq_true, decide_eq_true_eq, List.all_eq_true, okc_iff]
/-- Cell i is not black, or it points to no white cell. -/
def chOk (a b e : List Int) (i : Nat) : Bool := !(decide (rd e (i : Int) = 2) && (decide (rd a (i : Int) ≠ -1 ∧ rd e (rd a (i : Int)) = 0) || decide (rd b (i : Int) ≠ -1 ∧ rd e (rd b (i : Int)) = 0)))
def chFrom (a b e : List Int) (i : Nat) : Bool := ((List.range e.length).drop i).all (chOk a b e)
theorem chFrom_nil (a b e : List Int) (i : Nat) (h : e.length ≤ i) : chFrom a b e i = true := by
  unfold chFrom; rw [List.drop_eq_nil_of_le (by simpa using h)]; rfl
theorem chFrom_cons (a b e : List Int) (i : Nat) (h : i < e.length) : chFrom a b e i = (chOk a b e i && chFrom a b e (i + 1)) := by
  unfold chFrom
  rw [List.drop_eq_getElem_cons (by simpa using h), List.all_cons, List.getElem_range]
theorem chFrom_iff (a b e : List Int) : chFrom a b e 0 = true ↔ ∀ i : Nat, i < e.length → chOk a b e i = true := by
  unfold chFrom
  rw [List.drop_zero, List.all_eq_true]
  exact ⟨fun h i hi => h i (List.mem_range.2 hi), fun h i hi => h i (List.mem_range.1 hi)⟩
/-- No black cell points to a white one. -/
def chM (a b c e : List Int) : Bool := cv a b c e && chFrom a b e 0
theorem cv_ptr {a b c e : List Int} (h : cv a b c e = true) (i : Nat) (hi : i < e.length) : (rd a (i : Int) = -1 ∨ (0 ≤ rd a (i : Int) ∧ rd a (i : Int) < (e.length : Int))) ∧ (rd b (i : Int) = -1 ∨ (0 ≤ rd b (i : Int) ∧ rd b (i : Int) < (e.length : Int))) := by
  obtain ⟨h1, _, h3⟩ := cv_iff.1 h
  have hl := hv_len h1
  have p1 := (hv_iff.1 h1).2.1 _ (rd_mem a (i : Int) (by omega) (by omega))
  have p2 := (hv_iff.1 h1).2.2.1 _ (rd_mem b (i : Int) (by omega) (by omega))
  omega
theorem l1Points_tells (x : Int) (n : Nat) : spec_l1Points.f x (n : Int) = some (okp n x) := by
  unfold spec_l1Points.f okp
  by_cases h : x ≥ -1
  · rw [if_pos h]; congr 1; simp; omega
  · rw [if_neg h]; congr 1; exact (decide_eq_false (fun h2 => h h2.1)).symm
theorem specHV_l1 (a b c : List Int) (n : Nat) (hl : c.length ≤ 3) : ∀ (d i k : Nat), i ≤ c.length → c.length - i = d → d < k →
    spec_HeapValid.l1 k (n : Int) (i : Int) a b c = some ((c.drop i).all (okp n)) := by
  intro d
  induction d with
  | zero =>
    intro i k hi hd hk
    obtain ⟨k, rfl⟩ : ∃ m, k = m + 1 := ⟨k - 1, by omega⟩
    rw [spec_HeapValid.l1, if_neg (by omega), all_drop_nil _ _ _ (by omega)]
  | succ d ih =>
    intro i k hi hd hk
    obtain ⟨k, rfl⟩ : ∃ m, k = m + 1 := ⟨k - 1, by omega⟩
    have hlt : i < c.length := by omega
    rw [spec_HeapValid.l1, if_pos (by omega), if_pos (by omega), l1Points_tells, all_drop_cons _ _ _ hlt, wrap_succ hlt (by omega)]
    simp only [Option.bind_some]
    cases h : okp n (rd c (i : Int)) with
    | true => rw [if_pos rfl, ih (i + 1) k (by omega) (by omega) (by omega), Bool.true_and]
    | false => rw [if_neg (by simp), Bool.false_and]
theorem specHV_l0 (a b c : List Int) (hl : c.length ≤ 3) (ha : a.length ≤ 8) (hb : b.length = a.length) : ∀ (d i k : Nat), i ≤ a.length → a.length - i = d → d + 5 < k →
    spec_HeapValid.l0 k (a.length : Int) (i : Int) a b c = some ((a.drop i).all (okp a.length) && ((b.drop i).all (okp a.length) && c.all (okp a.length))) := by
  intro d
  induction d with
  | zero =>
    intro i k hi hd hk
    obtain ⟨k, rfl⟩ : ∃ m, k = m + 1 := ⟨k - 1, by omega⟩
    rw [spec_HeapValid.l0, if_neg (by omega), all_drop_nil _ _ _ (by omega), all_drop_nil _ _ _ (by omega)]
    have := specHV_l1 a b c a.length hl c.length 0 k (by omega) (by omega) (by omega)
    simp only [List.drop_zero] at this
    rw [Bool.true_and, Bool.true_and]
    exact this
  | succ d ih =>
    intro i k hi hd hk
    obtain ⟨k, rfl⟩ : ∃ m, k = m + 1 := ⟨k - 1, by omega⟩
    have hlt : i < a.length := by omega
    have hlt2 : i < b.length := by omega
    rw [spec_HeapValid.l0, if_pos (by omega), if_pos (by omega), if_pos (by omega), l1Points_tells, all_drop_cons _ a _ hlt, all_drop_cons _ b _ hlt2]
    simp only [Option.bind_some]
    cases h : okp a.length (rd a (i : Int)) with
    | false => rw [if_neg (by simp), Bool.false_and, Bool.false_and]
    | true =>
      rw [if_pos rfl, if_pos (by omega), l1Points_tells, wrap_succ hlt (by omega)]
      simp only [Option.bind_some]
      cases h2 : okp a.length (rd b (i : Int)) with
      | false => rw [if_neg (by simp), Bool.false_and, Bool.false_and, Bool.and_false]
      | true => rw [if_pos rfl, ih (i + 1) k (by omega) (by omega) (by omega), Bool.true_and, Bool.true_and]
theorem hv_false {a b c : List Int} (h : ¬ (a.length = b.length ∧ 1 ≤ a.length ∧ a.length ≤ 8 ∧ 1 ≤ c.length ∧ c.length ≤ 3)) : hv a b c = false := by
  unfold hv; rw [decide_eq_false h, Bool.false_and]
theorem specHV_tells (a b c : List Int) (k : Nat) (hk : 40 ≤ k) : spec_HeapValid.f k a b c = some (hv a b c) := by
  unfold spec_HeapValid.f
  obtain ⟨k, rfl⟩ : ∃ m, k = m + 1 := ⟨k - 1, by omega⟩
  have hj : ∀ n : Int, spec_HeapValid.j0 (k + 1) n true a b c = some false := fun n => by rw [spec_HeapValid.j0, if_pos rfl]
  by_cases h1 : (a.length : Int) < 1
  · rw [if_pos h1, hj, hv_false (by omega)]
  rw [if_neg h1]
  by_cases h2 : (a.length : Int) > 8
  · rw [if_pos h2, hj, hv_false (by omega)]
  rw [if_neg h2]
  by_cases h3 : (b.length : Int) = (a.length : Int)
  · rw [if_pos h3]
    by_cases h4 : (c.length : Int) < 1
    · rw [if_pos h4, hj, hv_false (by omega)]
    rw [if_neg h4]
    by_cases h5 : (c.length : Int) > 3
    · rw [decide_eq_true h5, hj, hv_false (by omega)]
    rw [decide_eq_false h5, spec_HeapValid.j0, if_neg (by simp)]
    have := specHV_l0 a b c (by omega) (by omega) (by omega) a.length 0 k (by omega) (by omega) (by omega)
    simp only [List.drop_zero] at this
    refine this.trans ?_
    unfold hv
    rw [decide_eq_true (show a.length = b.length ∧ 1 ≤ a.length ∧ a.length ≤ 8 ∧ 1 ≤ c.length ∧ c.length ≤ 3 by omega), Bool.true_and]
  · rw [if_neg h3, hj, hv_false (by omega)]
theorem implHV_l1 (y : List (List Int)) (xs a b c : List Int) (i : Int) (h0 : -9223372036854775808 ≤ i) (h9 : i ≤ 9223372036854775806) (hl : xs.length ≤ 9223372036854775807) : ∀ (d j m : Nat), j ≤ xs.length → xs.length - j = d →
    impl_HeapValid.l1 (m + d + 1) y 3 i xs (xs.length : Int) (j : Int) a b c = if (xs.drop j).all (okp a.length) = true then impl_HeapValid.l0 m y 3 (i + 1) a b c else some false := by
  intro d
  induction d with
  | zero =>
    intro j m hj hd
    rw [impl_HeapValid.l1, if_neg (by omega), all_drop_nil _ _ _ (by omega), if_pos rfl, wrap_id (by omega) (by omega)]
  | succ d ih =>
    intro j m hj hd
    have hlt : j < xs.length := by omega
    rw [impl_HeapValid.l1, if_pos (by omega), if_pos (by omega), if_pos (by omega), all_drop_cons _ xs _ hlt, wrap_succ hlt hl]
    by_cases h1 : rd xs (j : Int) < -1
    · have : okp a.length (rd xs (j : Int)) = false := by unfold okp; exact decide_eq_false (by omega)
      rw [if_pos h1, this, Bool.false_and, if_neg (by simp)]
    · rw [if_neg h1]
      by_cases h2 : rd xs (j : Int) ≥ (a.length : Int)
      · have : okp a.length (rd xs (j : Int)) = false := by unfold okp; exact decide_eq_false (by omega)
        rw [if_pos h2, this, Bool.false_and, if_neg (by simp)]
      · have : okp a.length (rd xs (j : Int)) = true := by unfold okp; exact decide_eq_true (by omega)
        rw [if_neg h2, this, Bool.true_and]
        exact ih (j + 1) m (by omega) (by omega)
theorem implHV_l0 (a b c : List Int) (m : Nat) (hb : b.length ≤ 8) (ha : a.length ≤ 8) (hc : c.length ≤ 8) :
    impl_HeapValid.l0 (m + 1 + (c.length + 1) + 1 + (b.length + 1) + 1 + (a.length + 1) + 1) [a, b, c] 3 0 a b c = some (a.all (okp a.length) && (b.all (okp a.length) && c.all (okp a.length))) := by
  have e0 : rd_L2 [a, b, c] 0 = a := rfl
  have e1 : rd_L2 [a, b, c] 1 = b := rfl
  have e2 : rd_L2 [a, b, c] 2 = c := rfl
  rw [impl_HeapValid.l0, if_pos (by omega), if_pos (by omega), if_pos (by simp), e0]
  have s0 := implHV_l1 [a, b, c] a a b c 0 (by omega) (by omega) (by omega) a.length 0 (m + 1 + (c.length + 1) + 1 + (b.length + 1) + 1) (by omega) (by omega)
  simp only [List.drop_zero] at s0
  refine Eq.trans s0 ?_
  cases hA : a.all (okp a.length) with
  | false => rfl
  | true =>
    rw [if_pos rfl, Bool.true_and]
    rw [impl_HeapValid.l0, if_pos (by omega), if_pos (by omega), if_pos (by simp), show (0 : Int) + 1 = 1 from rfl, e1]
    have s1 := implHV_l1 [a, b, c] b a b c 1 (by omega) (by omega) (by omega) b.length 0 (m + 1 + (c.length + 1) + 1) (by omega) (by omega)
    simp only [List.drop_zero] at s1
    refine Eq.trans s1 ?_
    cases hB : b.all (okp a.length) with
    | false => rfl
    | true =>
      rw [if_pos rfl, Bool.true_and]
      rw [impl_HeapValid.l0, if_pos (by omega), if_pos (by omega), if_pos (by simp), show (1 : Int) + 1 = 2 from rfl, e2]
      have s2 := implHV_l1 [a, b, c] c a b c 2 (by omega) (by omega) (by omega) c.length 0 (m + 1) (by omega) (by omega)
      simp only [List.drop_zero] at s2
      refine Eq.trans s2 ?_
      cases hC : c.all (okp a.length) with
      | false => rfl
      | true => rw [if_pos rfl, impl_HeapValid.l0, if_neg (by omega)]
theorem implHV_tells (a b c : List Int) (k : Nat) (hk : 60 ≤ k) : impl_HeapValid.f k a b c = some (hv a b c) := by
  unfold impl_HeapValid.f
  obtain ⟨k, rfl⟩ : ∃ m, k = m + 1 := ⟨k - 1, by omega⟩
  have hj : impl_HeapValid.j0 (k + 1) true a b c = some false := by rw [impl_HeapValid.j0, if_pos rfl]
  by_cases h1 : (a.length : Int) = (b.length : Int)
  · rw [if_pos h1]
    by_cases h2 : (a.length : Int) < 1
    · rw [if_pos h2, hj, hv_false (by omega)]
    rw [if_neg h2]
    by_cases h3 : (a.length : Int) > 8
    · rw [if_pos h3, hj, hv_false (by omega)]
    rw [if_neg h3]
    by_cases h4 : (c.length : Int) < 1
    · rw [if_pos h4, hj, hv_false (by omega)]
    rw [if_neg h4]
    by_cases h5 : (c.length : Int) > 3
    · rw [decide_eq_true h5, hj, hv_false (by omega)]
    rw [decide_eq_false h5, impl_HeapValid.j0, if_neg (by simp)]
    simp only [Option.bind_some]
    obtain ⟨m, hm⟩ : ∃ m, k = m + 1 + (c.length + 1) + 1 + (b.length + 1) + 1 + (a.length + 1) + 1 := ⟨k - 1 - (c.length + 1) - 1 - (b.length + 1) - 1 - (a.length + 1) - 1, by omega⟩
    have := implHV_l0 a b c m (by omega) (by omega) (by omega)
    rw [← hm] at this
    refine Eq.trans this ?_
    unfold hv
    rw [decide_eq_true (show a.length = b.length ∧ 1 ≤ a.length ∧ a.length ≤ 8 ∧ 1 ≤ c.length ∧ c.length ≤ 3 by omega), Bool.true_and]
  · rw [if_neg h1, hj, hv_false (by omega)]
theorem colorsOk_l0 (x e : List Int) (n : Int) (hl : e.length ≤ 9223372036854775807) : ∀ (d i k : Nat), i ≤ e.length → e.length - i = d → d < k →
    impl_colorsOk.l0 k x n e (e.length : Int) (i : Int) = some ((e.drop i).all okc && ((x.length : Int) == n)) := by
  intro d
  induction d with
  | zero =>
    intro i k hi hd hk
    obtain ⟨k, rfl⟩ : ∃ m, k = m + 1 := ⟨k - 1, by omega⟩
    rw [impl_colorsOk.l0, if_neg (by omega), all_drop_nil _ _ _ (by omega), Bool.true_and]
  | succ d ih =>
    intro i k hi hd hk
    obtain ⟨k, rfl⟩ : ∃ m, k = m + 1 := ⟨k - 1, by omega⟩
    have hlt : i < e.length := by omega
    rw [impl_colorsOk.l0, if_pos (by omega), if_pos (by omega), if_pos (by omega), all_drop_cons _ _ _ hlt, wrap_succ hlt hl]
    by_cases h1 : rd e (i : Int) < 0
    · have : okc (rd e (i : Int)) = false := by unfold okc; exact decide_eq_false (by omega)
      rw [if_pos h1, this, Bool.false_and, Bool.false_and]
    · rw [if_neg h1]
      by_cases h2 : rd e (i : Int) > 2
      · have : okc (rd e (i : Int)) = false := by unfold okc; exact decide_eq_false (by omega)
        rw [if_pos h2, this, Bool.false_and, Bool.false_and]
      · have : okc (rd e (i : Int)) = true := by unfold okc; exact decide_eq_true (by omega)
        rw [if_neg h2, this, Bool.true_and]
        exact ih (i + 1) k (by omega) (by omega) (by omega)
theorem colorsOk_tells (e : List Int) (n : Nat) (k : Nat) (he : e.length ≤ 1048576) (hk : 1048600 ≤ k) : impl_colorsOk.f k e (n : Int) = some (e.all okc && decide (e.length = n)) := by
  unfold impl_colorsOk.f
  refine Eq.trans (colorsOk_l0 e e n (by omega) e.length 0 k (by omega) (by omega) (by omega)) ?_
  rw [List.drop_zero]
  congr 2
  rw [Bool.eq_iff_iff]; simp; omega
theorem implCV_tells (a b c e : List Int) (k : Nat) (he : e.length ≤ 1048576) (hk : 1048600 ≤ k) : impl_ColoredValid.f k a b c e = some (cv a b c e) := by
  unfold impl_ColoredValid.f cv
  rw [implHV_tells a b c k (by omega)]
  simp only [Option.bind_some]
  cases h : hv a b c with
  | false => rw [if_neg (by simp), Bool.false_and]
  | true => rw [if_pos rfl, Bool.true_and, colorsOk_tells e a.length k he hk]; rfl
theorem implCH_l0 {a b c e : List Int} (h : cv a b c e = true) : ∀ (d i k : Nat), i ≤ e.length → e.length - i = d → d < k → impl_ColorHolds.l0 k (i : Int) a b e = some (chFrom a b e i) := by
  obtain ⟨h1, _, h3⟩ := cv_iff.1 h
  have hl := hv_len h1
  intro d
  induction d with
  | zero =>
    intro i k hi hd hk
    obtain ⟨k, rfl⟩ : ∃ m, k = m + 1 := ⟨k - 1, by omega⟩
    rw [impl_ColorHolds.l0, if_neg (by omega), chFrom_nil _ _ _ _ (by omega)]
  | succ d ih =>
    intro i k hi hd hk
    obtain ⟨k, rfl⟩ : ∃ m, k = m + 1 := ⟨k - 1, by omega⟩
    have hlt : i < e.length := by omega
    obtain ⟨pa, pb⟩ := cv_ptr h i hlt
    have oa : whiteOk e.length (rd a (i : Int)) = true := decide_eq_true pa
    have ob : whiteOk e.length (rd b (i : Int)) = true := decide_eq_true pb
    rw [impl_ColorHolds.l0, if_pos (by omega), if_pos (by omega), chFrom_cons _ _ _ _ hlt, wrap_succ hlt (by omega), ih (i + 1) k (by omega) (by omega) (by omega)]
    unfold chOk
    by_cases c1 : rd e (i : Int) = 2
    · rw [if_pos c1, if_pos (by omega), if_pos oa, decide_eq_true c1]
      have m1 : whiteM e (rd a (i : Int)) = decide (rd a (i : Int) ≠ -1 ∧ rd e (rd a (i : Int)) = 0) := rfl
      have m2 : whiteM e (rd b (i : Int)) = decide (rd b (i : Int) ≠ -1 ∧ rd e (rd b (i : Int)) = 0) := rfl
      rw [← m1, ← m2]
      by_cases q1 : whiteM e (rd a (i : Int)) = true
      · rw [if_pos q1, q1]; simp
      · rw [if_neg q1, if_pos (by omega), if_pos ob, Bool.eq_false_iff.2 q1]
        by_cases q2 : whiteM e (rd b (i : Int)) = true
        · rw [if_pos q2, q2]; simp
        · rw [if_neg q2, Bool.eq_false_iff.2 q2]; simp
    · rw [if_neg c1, decide_eq_false c1]; simp
theorem implCH_tells (a b c e : List Int) (he : e.length ≤ 1048576) : impl_ColorHolds.f a b c e = some (chM a b c e) := by
  unfold impl_ColorHolds.f chM
  rw [implCV_tells a b c e _ he (by omega)]
  simp only [Option.bind_some]
  by_cases h : cv a b c e = true
  · obtain ⟨h1, _, h3⟩ := cv_iff.1 h
    have hl := hv_len h1
    rw [if_pos h, h, Bool.true_and]
    exact implCH_l0 h e.length 0 2000 (by omega) (by omega) (by omega)
  · rw [if_neg h, Bool.eq_false_iff.2 h, Bool.false_and]
theorem specCV_l0 (a b c e : List Int) (hl : e.length ≤ 9223372036854775807) : ∀ (d i k : Nat), i ≤ e.length → e.length - i = d → d < k →
    spec_ColoredValid.l0 k (i : Int) a b c e = some ((e.drop i).all okc) := by
  intro d
  induction d with
  | zero =>
    intro i k hi hd hk
    obtain ⟨k, rfl⟩ : ∃ m, k = m + 1 := ⟨k - 1, by omega⟩
    rw [spec_ColoredValid.l0, if_neg (by omega), all_drop_nil _ _ _ (by omega)]
  | succ d ih =>
    intro i k hi hd hk
    obtain ⟨k, rfl⟩ : ∃ m, k = m + 1 := ⟨k - 1, by omega⟩
    have hlt : i < e.length := by omega
    rw [spec_ColoredValid.l0, if_pos (by omega), if_pos (by omega), all_drop_cons _ _ _ hlt, wrap_succ hlt hl]
    by_cases h1 : rd e (i : Int) < 0
    · have : okc (rd e (i : Int)) = false := by unfold okc; exact decide_eq_false (by omega)
      rw [if_pos h1, this, Bool.false_and]
    · rw [if_neg h1]
      by_cases h2 : rd e (i : Int) > 2
      · have : okc (rd e (i : Int)) = false := by unfold okc; exact decide_eq_false (by omega)
        rw [if_pos h2, this, Bool.false_and]
      · have : okc (rd e (i : Int)) = true := by unfold okc; exact decide_eq_true (by omega)
        rw [if_neg h2, this, Bool.true_and]
        exact ih (i + 1) k (by omega) (by omega) (by omega)
theorem specCV_tells (a b c e : List Int) (k : Nat) (he : e.length ≤ 1048576) (hk : 1048600 ≤ k) : spec_ColoredValid.f k a b c e = some (cv a b c e) := by
  unfold spec_ColoredValid.f
  rw [specHV_tells a b c k (by omega)]
  simp only [Option.bind_some]
  obtain ⟨k, rfl⟩ : ∃ m, k = m + 1 := ⟨k - 1, by omega⟩
  have hj : spec_ColoredValid.j0 (k + 1) true a b c e = some false := by rw [spec_ColoredValid.j0, if_pos rfl]
  unfold cv
  cases h : hv a b c with
  | false => rw [if_neg (by simp), hj, Bool.false_and]
  | true =>
    rw [if_pos rfl, Bool.true_and]
    by_cases h2 : e.length = a.length
    · have : ((e.length : Int) != (a.length : Int)) = false := by simp [h2]
      rw [this, spec_ColoredValid.j0, if_neg (by simp), decide_eq_true h2, Bool.and_true]
      exact specCV_l0 a b c e (by omega) e.length 0 k (by omega) (by omega) (by omega)
    · have : ((e.length : Int) != (a.length : Int)) = true := by simp; omega
      rw [this, hj, decide_eq_false h2, Bool.and_false]
theorem specCH_l0 {a b c e : List Int} (h : cv a b c e = true) : ∀ (d i k : Nat), i ≤ e.length → e.length - i = d → 2 * d < k → spec_ColorHolds.l0 k (i : Int) a b c e = some (chFrom a b e i) := by
  obtain ⟨h1, _, h3⟩ := cv_iff.1 h
  have hl := hv_len h1
  intro d
  induction d with
  | zero =>
    intro i k hi hd hk
    obtain ⟨k, rfl⟩ : ∃ m, k = m + 1 := ⟨k - 1, by omega⟩
    rw [spec_ColorHolds.l0, if_neg (by omega), chFrom_nil _ _ _ _ (by omega)]
  | succ d ih =>
    intro i k hi hd hk
    obtain ⟨k, rfl⟩ : ∃ m, k = m + 2 := ⟨k - 2, by omega⟩
    have hlt : i < e.length := by omega
    obtain ⟨pa, pb⟩ := cv_ptr h i hlt
    have nx := ih (i + 1) k (by omega) (by omega) (by omega)
    have j1 : ∀ s, spec_ColorHolds.j1 (k + 1) (i : Int) s a b c e = if s = true then some false else some (chFrom a b e (i + 1)) := by
      intro s; rw [spec_ColorHolds.j1, wrap_succ hlt (by omega), nx]
    rw [spec_ColorHolds.l0, if_pos (by omega), if_pos (by omega), if_pos (by omega), if_pos (by omega), chFrom_cons _ _ _ _ hlt]
    unfold chOk
    simp only [j1]
    by_cases c1 : rd e (i : Int) = 2
    · rw [if_pos c1, decide_eq_true c1]
      have rb : (if (rd b (i : Int)) = (-1) then (if false = true then some false else some (chFrom a b e (i + 1))) else (if 0 ≤ (rd b (i : Int)) then (if (rd b (i : Int)) < (e.length : Int) then (if ((rd e (rd b (i : Int))) == 0) = true then some false else some (chFrom a b e (i + 1))) else (none)) else (none))) = some (!(decide (rd b (i : Int) ≠ -1 ∧ rd e (rd b (i : Int)) = 0)) && chFrom a b e (i + 1)) := by
        by_cases q : rd b (i : Int) = -1
        · rw [if_pos q, q]; simp
        · rw [if_neg q, if_pos (by omega), if_pos (by omega)]
          by_cases q2 : rd e (rd b (i : Int)) = 0 <;> simp [q, q2]
      by_cases q : rd a (i : Int) = -1
      · rw [if_pos q, rb, q]; simp
      · rw [if_neg q, if_pos (by omega), if_pos (by omega), rb]
        by_cases q2 : rd e (rd a (i : Int)) = 0
        · rw [if_pos q2]; simp [q, q2]
        · rw [if_neg q2]; simp [q2]
    · rw [if_neg c1, decide_eq_false c1]; simp
theorem specCH_tells (a b c e : List Int) (k : Nat) (he : e.length ≤ 1048576) (hk : 1048600 ≤ k) : spec_ColorHolds.f k a b c e = some (chM a b c e) := by
  unfold spec_ColorHolds.f chM
  rw [specCV_tells a b c e _ he (by omega)]
  simp only [Option.bind_some]
  by_cases h : cv a b c e = true
  · obtain ⟨h1, _, h3⟩ := cv_iff.1 h
    have hl := hv_len h1
    rw [if_pos h, h, Bool.true_and]
    exact specCH_l0 h e.length 0 k (by omega) (by omega) (by omega)
  · rw [if_neg h, Bool.eq_false_iff.2 h, Bool.false_and]
theorem eqIntS_l0 (a b : List Int) (he : a.length = b.length) (hl : a.length ≤ 9223372036854775807) : ∀ (d n k : Nat), n ≤ a.length → a.length - n = d → d < k →
    laws_eqIntS.l0 k a b (n : Int) = some (decide (a.drop n = b.drop n)) := by
  intro d
  induction d with
  | zero =>
    intro n k hn hd hk
    obtain ⟨k, rfl⟩ : ∃ m, k = m + 1 := ⟨k - 1, by omega⟩
    rw [laws_eqIntS.l0, if_neg (by omega), List.drop_eq_nil_of_le (by omega), List.drop_eq_nil_of_le (by omega)]
    simp
  | succ d ih =>
    intro n k hn hd hk
    obtain ⟨k, rfl⟩ : ∃ m, k = m + 1 := ⟨k - 1, by omega⟩
    have hlt : n < a.length := by omega
    have hlt2 : n < b.length := by omega
    rw [laws_eqIntS.l0, if_pos (by omega), if_pos (by omega), if_pos (by omega), drop_rd a n hlt, drop_rd b n hlt2]
    by_cases h : rd a (n : Int) = rd b (n : Int)
    · rw [if_pos h, wrap_succ hlt hl, ih (n + 1) k (by omega) (by omega) (by omega), h]
      simp
    · rw [if_neg h]
      simp [h]
theorem eqIntS_tells (a b : List Int) (k : Nat) (hl : a.length ≤ 9223372036854775807) (hk : a.length < k) : laws_eqIntS.f k a b = some (decide (a = b)) := by
  unfold laws_eqIntS.f
  by_cases h : a.length = b.length
  · rw [if_pos (by omega)]
    refine Eq.trans (eqIntS_l0 a b h hl a.length 0 k (by omega) (by omega) hk) ?_
    simp
  · rw [if_neg (by omega)]
    have : a ≠ b := fun e => h (by rw [e])
    simp [this]
theorem eqHeap_tells (a b c a' b' c' : List Int) (k : Nat) (ha : a.length ≤ 1048576) (hb : b.length ≤ 1048576) (hc : c.length ≤ 1048576) (hk : 1048577 ≤ k) :
    laws_eqHeap.f k a b c a' b' c' = some (decide (a = a' ∧ b = b' ∧ c = c')) := by
  unfold laws_eqHeap.f
  rw [eqIntS_tells a a' k (by omega) (by omega)]
  simp only [Option.bind_some, decide_eq_true_eq]
  by_cases h1 : a = a'
  · rw [if_pos h1, eqIntS_tells b b' k (by omega) (by omega)]
    simp only [Option.bind_some, decide_eq_true_eq]
    by_cases h2 : b = b'
    · rw [if_pos h2, eqIntS_tells c c' k (by omega) (by omega)]
      by_cases h3 : c = c' <;> simp [h1, h2, h3]
    · rw [if_neg h2]; simp [h2]
  · rw [if_neg h1]; simp [h1]
theorem eqColored_tells (a b c e a' b' c' e' : List Int) (k : Nat) (ha : a.length ≤ 1048576) (hb : b.length ≤ 1048576) (hc : c.length ≤ 1048576) (he : e.length ≤ 1048576) (hk : 1048577 ≤ k) :
    laws_eqColored.f k a b c e a' b' c' e' = some (decide (a = a' ∧ b = b' ∧ c = c' ∧ e = e')) := by
  unfold laws_eqColored.f
  rw [eqHeap_tells a b c a' b' c' k ha hb hc hk]
  simp only [Option.bind_some, decide_eq_true_eq]
  by_cases h1 : a = a' ∧ b = b' ∧ c = c'
  · rw [if_pos h1, eqIntS_tells e e' k (by omega) (by omega)]
    obtain ⟨rfl, rfl, rfl⟩ := h1
    by_cases h3 : e = e' <;> simp [h3]
  · rw [if_neg h1]
    simp only [Option.some.injEq]
    exact (decide_eq_false (fun h => h1 ⟨h.1, h.2.1, h.2.2.1⟩)).symm
theorem szIntS_tells (l : List Int) (L : Int) (h0 : 0 ≤ L) (h1 : L ≤ 1048576) (hl : l.length ≤ 9223372036854775807) :
    laws_szIntS.f l L = some (if (l.length : Int) ≤ L then L - l.length else -1) := by
  unfold laws_szIntS.f
  rw [wrap_id (by omega) (by omega)]
  by_cases h : (l.length : Int) ≤ L
  · rw [if_neg (by omega), if_pos h]
  · rw [if_pos (by omega), if_neg h]
/-- What is left behind a heap: not less than 0 exactly if it fits. -/
theorem szHeap_tells (a b c : List Int) (L : Int) (h0 : 0 ≤ L) (h1 : L ≤ 1048576) (ha : a.length ≤ 9223372036854775807) (hb : b.length ≤ 9223372036854775807) (hc : c.length ≤ 9223372036854775807) :
    laws_szHeap.f a b c L = some (if (a.length : Int) + b.length + c.length ≤ L then L - a.length - b.length - c.length else -1) := by
  unfold laws_szHeap.f
  rw [szIntS_tells a L h0 h1 ha]
  simp only [Option.bind_some]
  by_cases h2 : (a.length : Int) ≤ L
  · rw [if_pos h2, if_neg (by omega), szIntS_tells b _ (by omega) (by omega) hb]
    simp only [Option.bind_some]
    by_cases h3 : (b.length : Int) ≤ L - a.length
    · rw [if_pos h3, if_neg (by omega), szIntS_tells c _ (by omega) (by omega) hc]
      simp only [Option.bind_some]
      by_cases h4 : (c.length : Int) ≤ L - a.length - b.length
      · rw [if_pos h4, if_neg (by omega), if_pos (by omega)]
      · rw [if_neg h4, if_pos (by omega), if_neg (by omega)]
    · rw [if_neg h3, if_pos (by omega), if_neg (by omega)]
  · rw [if_neg h2, if_pos (by omega), if_neg (by omega)]
theorem szColored_tells (a b c e : List Int) (L : Int) (h0 : 0 ≤ L) (h1 : L ≤ 1048576) (ha : a.length ≤ 9223372036854775807) (hb : b.length ≤ 9223372036854775807) (hc : c.length ≤ 9223372036854775807) (he : e.length ≤ 9223372036854775807) :
    laws_szColored.f a b c e L = some (if (a.length : Int) + b.length + c.length + e.length ≤ L then L - a.length - b.length - c.length - e.length else -1) := by
  unfold laws_szColored.f
  rw [szHeap_tells a b c L h0 h1 ha hb hc]
  simp only [Option.bind_some]
  by_cases h2 : (a.length : Int) + b.length + c.length ≤ L
  · rw [if_pos h2, if_neg (by omega), szIntS_tells e _ (by omega) (by omega) he]
    simp only [Option.bind_some]
    by_cases h3 : (e.length : Int) ≤ L - a.length - b.length - c.length
    · rw [if_pos h3, if_neg (by omega), if_pos (by omega)]
    · rw [if_neg h3, if_pos (by omega), if_neg (by omega)]
  · rw [if_neg h2, if_pos (by omega), if_neg (by omega)]
theorem toIntS_l0 (l : List Int) (hl : l.length ≤ 9223372036854775807) : ∀ (d n k : Nat) (x : List Int), n ≤ l.length → l.length - n = d → d < k → x.length = l.length → x.take n = l.take n →
    laws_toIntS.l0 k l x (n : Int) = some l := by
  intro d
  induction d with
  | zero =>
    intro k' k x hn hd hk hx he
    obtain ⟨k, rfl⟩ : ∃ m, k = m + 1 := ⟨k - 1, by omega⟩
    rw [laws_toIntS.l0, if_neg (by omega)]
    obtain rfl : k' = l.length := by omega
    rw [List.take_of_length_le (by omega), List.take_of_length_le (by omega)] at he
    rw [he]
  | succ d ih =>
    intro n k x hn hd hk hx he
    obtain ⟨k, rfl⟩ : ∃ m, k = m + 1 := ⟨k - 1, by omega⟩
    have hlt : n < l.length := by omega
    rw [laws_toIntS.l0, if_pos (by omega), if_pos (by omega), if_pos (by omega), wrap_succ hlt hl, Int.toNat_natCast]
    exact ih (n + 1) k _ (by omega) (by omega) (by omega) (by simpa using hx) (set_take l x n hlt hx he)
theorem toIntS_tells (l : List Int) (k : Nat) (hl : l.length ≤ 1048576) (hk : l.length < k) : laws_toIntS.f k l = some l := by
  unfold laws_toIntS.f
  rw [if_pos (by omega), if_pos (by omega)]
  exact toIntS_l0 l (by omega) l.length 0 k _ (by omega) (by omega) hk (by simp) (by simp)
theorem toHeap_tells (a b c : List Int) (k : Nat) (ha : a.length ≤ 1048576) (hb : b.length ≤ 1048576) (hc : c.length ≤ 1048576) (hk : 1048577 ≤ k) : laws_toHeap.f k a b c = some (a, b, c) := by
  unfold laws_toHeap.f
  rw [toIntS_tells a k ha (by omega), toIntS_tells b k hb (by omega), toIntS_tells c k hc (by omega)]
  rfl
theorem toColored_tells (a b c e : List Int) (k : Nat) (ha : a.length ≤ 1048576) (hb : b.length ≤ 1048576) (hc : c.length ≤ 1048576) (he : e.length ≤ 1048576) (hk : 1048577 ≤ k) : laws_toColored.f k a b c e = some (a, b, c, e) := by
  unfold laws_toColored.f
  rw [toHeap_tells a b c k ha hb hc hk]
  simp only [Option.bind_some]
  rw [toIntS_tells e k he (by omega)]
  rfl
theorem pure_FnExactColorHolds (a b c e : List Int) (ha : a.length ≤ 9223372036854775807) (hb : b.length ≤ 9223372036854775807) (hc : c.length ≤ 9223372036854775807) (he : e.length ≤ 9223372036854775807) : ∃ k, laws_FnExactColorHolds.f k a b c e = some true := by
  refine ⟨1048600, ?_⟩
  obtain ⟨k, hk⟩ : ∃ k : Nat, k = 1048600 := ⟨_, rfl⟩
  rw [← hk]
  unfold laws_FnExactColorHolds.f
  rw [szColored_tells a b c e 1048576 (by omega) (by omega) ha hb hc he]
  simp only [Option.bind_some]
  by_cases h : (a.length : Int) + b.length + c.length + e.length ≤ 1048576
  · rw [if_pos h, if_neg (by omega), toColored_tells a b c e k (by omega) (by omega) (by omega) (by omega) (by omega)]
    simp only [Option.bind_some]
    rw [specCH_tells a b c e k (by omega) (by omega)]
    simp only [Option.bind_some]
    rw [implCH_tells a b c e (by omega)]
    simp only [Option.bind_some]
    rw [if_neg (by simp), eqColored_tells a b c e a b c e k (by omega) (by omega) (by omega) (by omega) (by omega)]
    simp
  · rw [if_neg h, if_pos (by omega)]
end Go.Proofs.Ytcofdgeelojebaa.A
