/- Plain laws on lists and numbers, for FnMarkLive. No conditions beyond those stated. -/
import Derived.Test.YtkbaggfkidalfaaCLawsFnMarkLive
import Derived.Test.YtkbaggfkidalfaaPBase
import Derived.Test.YtkbaggfkidalfaaA0
import Derived.Test.YtkbaggfkidalfaaAImplColoredValid
import Derived.Test.YtkbaggfkidalfaaAImplColorsOk
import Derived.Test.YtkbaggfkidalfaaAImplHeapValid
import Derived.Test.YtkbaggfkidalfaaASpecHeapValid
import Derived.Test.YtkbaggfkidalfaaASpecL1Points
import Derived.Test.YtkbaggfkidalfaaASpecDrawNewColored
import Derived.Test.YtkbaggfkidalfaaASpecDrawHeapValid
import Derived.Test.YtkbaggfkidalfaaASpecL1Draw
import Derived.Test.YtkbaggfkidalfaaASpecL1Many
import Derived.Test.YtkbaggfkidalfaaASpecNewHeap
import Derived.Test.YtkbaggfkidalfaaASpecL13Open
import Derived.Test.YtkbaggfkidalfaaASpecL13RdNum
import Derived.Test.YtkbaggfkidalfaaASpecL13RdPick
import Derived.Test.YtkbaggfkidalfaaASpecL1Wrong
import Derived.Test.YtkbaggfkidalfaaASpecL1Copy
import Derived.Test.YtkbaggfkidalfaaAImplMarkAll
import Derived.Test.YtkbaggfkidalfaaAImplFresh
import Derived.Test.YtkbaggfkidalfaaASlicesCloneIntInt
import Derived.Test.YtkbaggfkidalfaaAImplCopied
import Derived.Test.YtkbaggfkidalfaaAImplLook
import Derived.Test.YtkbaggfkidalfaaAImplMarkStep
import Derived.Test.YtkbaggfkidalfaaASlicesIndexIntInt
import Derived.Test.YtkbaggfkidalfaaAImplShade
import Derived.Test.YtkbaggfkidalfaaAImplNewColored
import Derived.Test.YtkbaggfkidalfaaASpecNewColored
import Derived.Test.YtkbaggfkidalfaaAImplReachable
import Derived.Test.YtkbaggfkidalfaaAImplDistances
import Derived.Test.YtkbaggfkidalfaaAImplColoredSame
import Derived.Test.YtkbaggfkidalfaaASlicesEqualIntInt
import Derived.Test.YtkbaggfkidalfaaAImplHeapSame
import Derived.Test.YtkbaggfkidalfaaAImplShadeRoots
namespace Go.Proofs.Ytkbaggfkidalfaa.A
open Go.RowKit Go.Proofs.YtkbaggfkidalfaaW.PrintWords Go.Proofs.YtkbaggfkidalfaaW.PrintLast Go.Proofs.YtkbaggfkidalfaaW.PrintMore
attribute [local go_sem] max2_int min2_int max_two min_two max_three min_three max_four min_four   -- for this text's walks alone
set_option linter.unusedVariables false
set_option linter.unusedSimpArgs false
/-- A pointer of a heap of n cells. -/
def okp (n : Nat) (x : Int) : Bool := decide (-1 ≤ x ∧ x < (n : Int))
def hv (a b c : List Int) : Bool := decide (a.length = b.length ∧ 1 ≤ a.length ∧ a.length ≤ 8 ∧ 1 ≤ c.length ∧ c.length ≤ 3) && (a.all (okp a.length) && (b.all (okp a.length) && c.all (okp a.length)))
theorem hv_len {a b c : List Int} (h : hv a b c = true) : a.length = b.length ∧ 1 ≤ a.length ∧ a.length ≤ 8 ∧ 1 ≤ c.length ∧ c.length ≤ 3 := by
  unfold hv at h
  rw [Bool.and_eq_true] at h
  exact of_decide_eq_true h.1
theorem okp_iff {n : Nat} {x : Int} : okp n x = true ↔ -1 ≤ x ∧ x < (n : Int) := by unfold okp; exact decide_eq_true_iff
theorem hv_iff {a b c : List Int} : hv a b c = true ↔ (a.length = b.length ∧ 1 ≤ a.length ∧ a.length ≤ 8 ∧ 1 ≤ c.length ∧ c.length ≤ 3) ∧ (∀ x ∈ a, -1 ≤ x ∧ x < (a.length : Int)) ∧ (∀ x ∈ b, -1 ≤ x ∧ x < (a.length : Int)) ∧ (∀ x ∈ c, -1 ≤ x ∧ x < (a.length : Int)) := by
  unfold hv
  simp only [Bool.and_eq_true, decide_eq_true_eq, List.all_eq_true, okp_iff]
theorem all_drop_cons (p : Int → Bool) (l : List Int) (n : Nat) (h : n < l.length) : (l.drop n).all p = (p (rd l (n : Int)) && (l.drop (n + 1)).all p) := by
  rw [drop_rd l n h, List.all_cons]
theorem all_drop_nil (p : Int → Bool) (l : List Int) (n : Nat) (h : l.length ≤ n) : (l.drop n).all p = true := by
  rw [List.drop_eq_nil_of_le h, List.all_nil]
def okc (x : Int) : Bool := decide (0 ≤ x ∧ x ≤ 2)
def cv (a b c e : List Int) : Bool := hv a b c && (e.all okc && decide (e.length = a.length))
theorem okc_iff {x : Int} : okc x = true ↔ 0 ≤ x ∧ x ≤ 2 := by unfold okc; exact decide_eq_true_iff
theorem cv_iff {a b c e : List Int} : cv a b c e = true ↔ hv a b c = true ∧ (∀ x ∈ e, 0 ≤ x ∧ x ≤ 2) ∧ e.length = a.length := by
  unfold cv
  simp only [Bool.and_eq_true, decide_eq_true_eq, List.all_eq_true, okc_iff]
theorem l1Points_tells (x : Int) (n : Nat) : spec_l1Points.f x (n : Int) = some (okp n x) := by
  unfold spec_l1Points.f okp
  by_cases h : x ≥ -1
  · rw [if_pos h]; congr 1; simp; omega
  · rw [if_neg h]; congr 1; exact (decide_eq_false (fun h2 => h h2.1)).symm
theorem specHV_l1 (a b c : List Int) (n : Nat) (hl : c.length ≤ 3) : ∀ (d i k : Nat), i ≤ c.length → c.length - i = d → d < k →
    spec_HeapValid.l1 k (n : Int) (i : Int) a b c = some ((c.drop i).all (okp n)) := by
  intro d
  induction d with
  | zero =>
    intro i k hi hd hk
    obtain ⟨k, rfl⟩ : ∃ m, k = m + 1 := ⟨k - 1, by omega⟩
    rw [spec_HeapValid.l1, if_neg (by omega), all_drop_nil _ _ _ (by omega)]
  | succ d ih =>
    intro i k hi hd hk
    obtain ⟨k, rfl⟩ : ∃ m, k = m + 1 := ⟨k - 1, by omega⟩
    have hlt : i < c.length := by omega
    rw [spec_HeapValid.l1, if_pos (by omega), if_pos (by omega), l1Points_tells, all_drop_cons _ _ _ hlt, wrap_succ hlt (by omega)]
    simp only [Option.bind_some]
    cases h : okp n (rd c (i : Int)) with
    | true => rw [if_pos rfl, ih (i + 1) k (by omega) (by omega) (by omega), Bool.true_and]
    | false => rw [if_neg (by simp), Bool.false_and]
theorem specHV_l0 (a b c : List Int) (hl : c.length ≤ 3) (ha : a.length ≤ 8) (hb : b.length = a.length) : ∀ (d i k : Nat), i ≤ a.length → a.length - i = d → d + 5 < k →
    spec_HeapValid.l0 k (a.length : Int) (i : Int) a b c = some ((a.drop i).all (okp a.length) && ((b.drop i).all (okp a.length) && c.all (okp a.length))) := by
  intro d
  induction d with
  | zero =>
    intro i k hi hd hk
    obtain ⟨k, rfl⟩ : ∃ m, k = m + 1 := ⟨k - 1, by omega⟩
    rw [spec_HeapValid.l0, if_neg (by omega), all_drop_nil _ _ _ (by omega), all_drop_nil _ _ _ (by omega)]
    have := specHV_l1 a b c a.length hl c.length 0 k (by omega) (by omega) (by omega)
    simp only [List.drop_zero] at this
    rw [Bool.true_and, Bool.true_and]
    exact this
  | succ d ih =>
    intro i k hi hd hk
    obtain ⟨k, rfl⟩ : ∃ m, k = m + 1 := ⟨k - 1, by omega⟩
    have hlt : i < a.length := by omega
    have hlt2 : i < b.length := by omega
    rw [spec_HeapValid.l0, if_pos (by omega), if_pos (by omega), if_pos (by omega), l1Points_tells, all_drop_cons _ a _ hlt, all_drop_cons _ b _ hlt2]
    simp only [Option.bind_some]
    cases h : okp a.length (rd a (i : Int)) with
    | false => rw [if_neg (by simp), Bool.false_and, Bool.false_and]
    | true =>
      rw [if_pos rfl, if_pos (by omega), l1Points_tells, wrap_succ hlt (by omega)]
      simp only [Option.bind_some]
      cases h2 : okp a.length (rd b (i : Int)) with
      | false => rw [if_neg (by simp), Bool.false_and, Bool.false_and, Bool.and_false]
      | true => rw [if_pos rfl, ih (i + 1) k (by omega) (by omega) (by omega), Bool.true_and, Bool.true_and]
theorem hv_false {a b c : List Int} (h : ¬ (a.length = b.length ∧ 1 ≤ a.length ∧ a.length ≤ 8 ∧ 1 ≤ c.length ∧ c.length ≤ 3)) : hv a b c = false := by
  unfold hv; rw [decide_eq_false h, Bool.false_and]
theorem specHV_tells (a b c : List Int) (k : Nat) (hk : 40 ≤ k) : spec_HeapValid.f k a b c = some (hv a b c) := by
  unfold spec_HeapValid.f
  obtain ⟨k, rfl⟩ : ∃ m, k = m + 1 := ⟨k - 1, by omega⟩
  have hj : ∀ n : Int, spec_HeapValid.j0 (k + 1) n true a b c = some false := fun n => by rw [spec_HeapValid.j0, if_pos rfl]
  by_cases h1 : (a.length : Int) < 1
  · rw [if_pos h1, hj, hv_false (by omega)]
  rw [if_neg h1]
  by_cases h2 : (a.length : Int) > 8
  · rw [if_pos h2, hj, hv_false (by omega)]
  rw [if_neg h2]
  by_cases h3 : (b.length : Int) = (a.length : Int)
  · rw [if_pos h3]
    by_cases h4 : (c.length : Int) < 1
    · rw [if_pos h4, hj, hv_false (by omega)]
    rw [if_neg h4]
    by_cases h5 : (c.length : Int) > 3
    · rw [decide_eq_true h5, hj, hv_false (by omega)]
    rw [decide_eq_false h5, spec_HeapValid.j0, if_neg (by simp)]
    have := specHV_l0 a b c (by omega) (by omega) (by omega) a.length 0 k (by omega) (by omega) (by omega)
    simp only [List.drop_zero] at this
    refine this.trans ?_
    unfold hv
    rw [decide_eq_true (show a.length = b.length ∧ 1 ≤ a.length ∧ a.length ≤ 8 ∧ 1 ≤ c.length ∧ c.length ≤ 3 by omega), Bool.true_and]
  · rw [if_neg h3, hj, hv_false (by omega)]
theorem implHV_l1 (y : List (List Int)) (xs a b c : List Int) (i : Int) (h0 : -9223372036854775808 ≤ i) (h9 : i ≤ 9223372036854775806) (hl : xs.length ≤ 9223372036854775807) : ∀ (d j m : Nat), j ≤ xs.length → xs.length - j = d →
    impl_HeapValid.l1 (m + d + 1) y 3 i xs (xs.length : Int) (j : Int) a b c = if (xs.drop j).all (okp a.length) = true then impl_HeapValid.l0 m y 3 (i + 1) a b c else some false := by
  intro d
  induction d with
  | zero =>
    intro j m hj hd
    rw [impl_HeapValid.l1, if_neg (by omega), all_drop_nil _ _ _ (by omega), if_pos rfl, wrap_id (by omega) (by omega)]
  | succ d ih =>
    intro j m hj hd
    have hlt : j < xs.length := by omega
    rw [impl_HeapValid.l1, if_pos (by omega), if_pos (by omega), if_pos (by omega), all_drop_cons _ xs _ hlt, wrap_succ hlt hl]
    by_cases h1 : rd xs (j : Int) < -1
    · have : okp a.length (rd xs (j : Int)) = false := by unfold okp; exact decide_eq_false (by omega)
      rw [if_pos h1, this, Bool.false_and, if_neg (by simp)]
    · rw [if_neg h1]
      by_cases h2 : rd xs (j : Int) ≥ (a.length : Int)
      · have : okp a.length (rd xs (j : Int)) = false := by unfold okp; exact decide_eq_false (by omega)
        rw [if_pos h2, this, Bool.false_and, if_neg (by simp)]
      · have : okp a.length (rd xs (j : Int)) = true := by unfold okp; exact decide_eq_true (by omega)
        rw [if_neg h2, this, Bool.true_and]
        exact ih (j + 1) m (by omega) (by omega)
theorem implHV_l0 (a b c : List Int) (m : Nat) (hb : b.length ≤ 8) (ha : a.length ≤ 8) (hc : c.length ≤ 8) :
    impl_HeapValid.l0 (m + 1 + (c.length + 1) + 1 + (b.length + 1) + 1 + (a.length + 1) + 1) [a, b, c] 3 0 a b c = some (a.all (okp a.length) && (b.all (okp a.length) && c.all (okp a.length))) := by
  have e0 : rd_L1 [a, b, c] 0 = a := rfl
  have e1 : rd_L1 [a, b, c] 1 = b := rfl
  have e2 : rd_L1 [a, b, c] 2 = c := rfl
  rw [impl_HeapValid.l0, if_pos (by omega), if_pos (by omega), if_pos (by simp), e0]
  have s0 := implHV_l1 [a, b, c] a a b c 0 (by omega) (by omega) (by omega) a.length 0 (m + 1 + (c.length + 1) + 1 + (b.length + 1) + 1) (by omega) (by omega)
  simp only [List.drop_zero] at s0
  refine Eq.trans s0 ?_
  cases hA : a.all (okp a.length) with
  | false => rfl
  | true =>
    rw [if_pos rfl, Bool.true_and]
    rw [impl_HeapValid.l0, if_pos (by omega), if_pos (by omega), if_pos (by simp), show (0 : Int) + 1 = 1 from rfl, e1]
    have s1 := implHV_l1 [a, b, c] b a b c 1 (by omega) (by omega) (by omega) b.length 0 (m + 1 + (c.length + 1) + 1) (by omega) (by omega)
    simp only [List.drop_zero] at s1
    refine Eq.trans s1 ?_
    cases hB : b.all (okp a.length) with
    | false => rfl
    | true =>
      rw [if_pos rfl, Bool.true_and]
      rw [impl_HeapValid.l0, if_pos (by omega), if_pos (by omega), if_pos (by simp), show (1 : Int) + 1 = 2 from rfl, e2]
      have s2 := implHV_l1 [a, b, c] c a b c 2 (by omega) (by omega) (by omega) c.length 0 (m + 1) (by omega) (by omega)
      simp only [List.drop_zero] at s2
      refine Eq.trans s2 ?_
      cases hC : c.all (okp a.length) with
      | false => rfl
      | true => rw [if_pos rfl, impl_HeapValid.l0, if_neg (by omega)]
theorem implHV_tells (a b c : List Int) (k : Nat) (hk : 60 ≤ k) : impl_HeapValid.f k a b c = some (hv a b c) := by
  unfold impl_HeapValid.f
  obtain ⟨k, rfl⟩ : ∃ m, k = m + 1 := ⟨k - 1, by omega⟩
  have hj : impl_HeapValid.j0 (k + 1) true a b c = some false := by rw [impl_HeapValid.j0, if_pos rfl]
  by_cases h1 : (a.length : Int) = (b.length : Int)
  · rw [if_pos h1]
    by_cases h2 : (a.length : Int) < 1
    · rw [if_pos h2, hj, hv_false (by omega)]
    rw [if_neg h2]
    by_cases h3 : (a.length : Int) > 8
    · rw [if_pos h3, hj, hv_false (by omega)]
    rw [if_neg h3]
    by_cases h4 : (c.length : Int) < 1
    · rw [if_pos h4, hj, hv_false (by omega)]
    rw [if_neg h4]
    by_cases h5 : (c.length : Int) > 3
    · rw [decide_eq_true h5, hj, hv_false (by omega)]
    rw [decide_eq_false h5, impl_HeapValid.j0, if_neg (by simp)]
    simp only [Option.bind_some]
    obtain ⟨m, hm⟩ : ∃ m, k = m + 1 + (c.length + 1) + 1 + (b.length + 1) + 1 + (a.length + 1) + 1 := ⟨k - 1 - (c.length + 1) - 1 - (b.length + 1) - 1 - (a.length + 1) - 1, by omega⟩
    have := implHV_l0 a b c m (by omega) (by omega) (by omega)
    rw [← hm] at this
    refine Eq.trans this ?_
    unfold hv
    rw [decide_eq_true (show a.length = b.length ∧ 1 ≤ a.length ∧ a.length ≤ 8 ∧ 1 ≤ c.length ∧ c.length ≤ 3 by omega), Bool.true_and]
  · rw [if_neg h1, hj, hv_false (by omega)]
theorem colorsOk_l0 (x e : List Int) (n : Int) (hl : e.length ≤ 9223372036854775807) : ∀ (d i k : Nat), i ≤ e.length → e.length - i = d → d < k →
    impl_colorsOk.l0 k x n e (e.length : Int) (i : Int) = some ((e.drop i).all okc && ((x.length : Int) == n)) := by
  intro d
  induction d with
  | zero =>
    intro i k hi hd hk
    obtain ⟨k, rfl⟩ : ∃ m, k = m + 1 := ⟨k - 1, by omega⟩
    rw [impl_colorsOk.l0, if_neg (by omega), all_drop_nil _ _ _ (by omega), Bool.true_and]
  | succ d ih =>
    intro i k hi hd hk
    obtain ⟨k, rfl⟩ : ∃ m, k = m + 1 := ⟨k - 1, by omega⟩
    have hlt : i < e.length := by omega
    rw [impl_colorsOk.l0, if_pos (by omega), if_pos (by omega), if_pos (by omega), all_drop_cons _ _ _ hlt, wrap_succ hlt hl]
    by_cases h1 : rd e (i : Int) < 0
    · have : okc (rd e (i : Int)) = false := by unfold okc; exact decide_eq_false (by omega)
      rw [if_pos h1, this, Bool.false_and, Bool.false_and]
    · rw [if_neg h1]
      by_cases h2 : rd e (i : Int) > 2
      · have : okc (rd e (i : Int)) = false := by unfold okc; exact decide_eq_false (by omega)
        rw [if_pos h2, this, Bool.false_and, Bool.false_and]
      · have : okc (rd e (i : Int)) = true := by unfold okc; exact decide_eq_true (by omega)
        rw [if_neg h2, this, Bool.true_and]
        exact ih (i + 1) k (by omega) (by omega) (by omega)
theorem colorsOk_tells (e : List Int) (n : Nat) (k : Nat) (he : e.length ≤ 1048576) (hk : 1048600 ≤ k) : impl_colorsOk.f k e (n : Int) = some (e.all okc && decide (e.length = n)) := by
  unfold impl_colorsOk.f
  refine Eq.trans (colorsOk_l0 e e n (by omega) e.length 0 k (by omega) (by omega) (by omega)) ?_
  rw [List.drop_zero]
  congr 2
  rw [Bool.eq_iff_iff]; simp; omega
theorem implCV_tells (a b c e : List Int) (k : Nat) (he : e.length ≤ 1048576) (hk : 1048600 ≤ k) : impl_ColoredValid.f k a b c e = some (cv a b c e) := by
  unfold impl_ColoredValid.f cv
  rw [implHV_tells a b c k (by omega)]
  simp only [Option.bind_some]
  cases h : hv a b c with
  | false => rw [if_neg (by simp), Bool.false_and]
  | true => rw [if_pos rfl, Bool.true_and, colorsOk_tells e a.length k he hk]; rfl
def nhM (c r : Int) : List Int × List Int × List Int × Bool := if 1 ≤ c ∧ c ≤ 8 ∧ 1 ≤ r ∧ r ≤ 3 then (List.replicate c.toNat (-1), List.replicate c.toNat (-1), List.replicate r.toNat (-1), true) else ([], [], [], false)
theorem many_l0 (n : Nat) (hn : n ≤ 1000) : ∀ (d i k : Nat), i ≤ n → n - i = d → d < k → spec_l1Many.l0 k (n : Int) (List.replicate i (-1)) (i : Int) = some (List.replicate n (-1)) := by
  intro d
  induction d with
  | zero =>
    intro i k hi hd hk
    obtain ⟨k, rfl⟩ : ∃ m, k = m + 1 := ⟨k - 1, by omega⟩
    obtain rfl : i = n := by omega
    rw [spec_l1Many.l0, if_neg (by omega)]
  | succ d ih =>
    intro i k hi hd hk
    obtain ⟨k, rfl⟩ : ∃ m, k = m + 1 := ⟨k - 1, by omega⟩
    rw [spec_l1Many.l0, if_pos (by omega), if_pos (by simp; omega), wrap_succ (m := n) (by omega) (by omega), ← List.replicate_succ']
    exact ih (i + 1) k (by omega) (by omega) (by omega)
theorem many_tells (n k : Nat) (hn : n ≤ 1000) (hk : n < k) : spec_l1Many.f k (n : Int) = some (List.replicate n (-1)) := by
  unfold spec_l1Many.f
  exact many_l0 n hn n 0 k (by omega) (by omega) hk
theorem specNH_tells (c r : Int) (k : Nat) (hk : 20 ≤ k) : spec_NewHeap.f k c r = some (nhM c r) := by
  unfold spec_NewHeap.f
  obtain ⟨k, rfl⟩ : ∃ m, k = m + 1 := ⟨k - 1, by omega⟩
  have hj : spec_NewHeap.j0 (k + 1) c r true = some ([], [], [], false) := by rw [spec_NewHeap.j0, if_pos rfl]
  have hf : ¬ (1 ≤ c ∧ c ≤ 8 ∧ 1 ≤ r ∧ r ≤ 3) → nhM c r = ([], [], [], false) := fun h => by unfold nhM; rw [if_neg h]
  by_cases h1 : c < 1
  · rw [if_pos h1, hj, hf (by omega)]
  rw [if_neg h1]
  by_cases h2 : c > 8
  · rw [if_pos h2, hj, hf (by omega)]
  rw [if_neg h2]
  by_cases h3 : r < 1
  · rw [if_pos h3, hj, hf (by omega)]
  rw [if_neg h3]
  by_cases h4 : r > 3
  · rw [decide_eq_true h4, hj, hf (by omega)]
  obtain ⟨c, rfl⟩ : ∃ n : Nat, c = (n : Int) := ⟨c.toNat, by omega⟩
  obtain ⟨r, rfl⟩ : ∃ n : Nat, r = (n : Int) := ⟨r.toNat, by omega⟩
  rw [decide_eq_false h4, spec_NewHeap.j0, if_neg (by simp), many_tells c k (by omega) (by omega), many_tells r k (by omega) (by omega)]
  unfold nhM
  rw [if_pos (by omega)]
  rfl
def bytesOk (b : List Int) : Prop := ∀ x ∈ b, 0 ≤ x ∧ x ≤ 255
theorem tmod_nat (a b : Nat) : Int.tmod (a : Int) (b : Int) = ((a % b : Nat) : Int) := rfl
theorem tdiv_nat (a b : Nat) : Int.tdiv (a : Int) (b : Int) = ((a / b : Nat) : Int) := rfl
theorem xor_nat (a b : Nat) (ha : a < 4611686018427387904) (hb : b < 4611686018427387904) : Go.bits .xor .i64 (a : Int) (b : Int) = ((a ^^^ b : Nat) : Int) := by
  have hx : a ^^^ b < 2 ^ 62 := Nat.xor_lt_two_pow (by omega) (by omega)
  have h1 : (BitVec.ofInt 64 (a : Int)).toNat = a := by
    rw [BitVec.ofInt_natCast, BitVec.toNat_ofNat]; exact Nat.mod_eq_of_lt (by omega)
  have h2 : (BitVec.ofInt 64 (b : Int)).toNat = b := by
    rw [BitVec.ofInt_natCast, BitVec.toNat_ofNat]; exact Nat.mod_eq_of_lt (by omega)
  show IntKind.i64.wrap ((BitVec.ofInt 64 (a : Int) ^^^ BitVec.ofInt 64 (b : Int)).toNat : Int) = _
  rw [BitVec.toNat_xor, h1, h2, IntKind.wrap_i64]
  omega
theorem wn (n : Nat) (h : n ≤ 9223372036854775807) : wrap64 (n : Int) = (n : Int) := wrap_id (by omega) (by omega)
theorem byte_at {b : List Int} (hb : bytesOk b) (i : Nat) (h : i < b.length) : ∃ A : Nat, A ≤ 255 ∧ rd b (i : Int) = (A : Int) := by
  have := hb _ (rd_mem b (i : Int) (by omega) (by omega))
  exact ⟨(rd b (i : Int)).toNat, by omega, by omega⟩
theorem pick_tells {b : List Int} (hb : bytesOk b) (hl : b.length ≤ 2000) (p n k : Nat) (hp : p ≤ 100000) (h1 : 1 ≤ n) (hk : 1 ≤ k) : ∃ v : Nat, v < n ∧ spec_l13Rd_pick.f k b (p : Int) (n : Int) = some ((v : Int), ((p + 1 : Nat) : Int)) := by
  obtain ⟨k, rfl⟩ : ∃ m, k = m + 1 := ⟨k - 1, by omega⟩
  have w1 : wrap64 ((p : Int) + 1) = ((p + 1 : Nat) : Int) := by unfold wrap64; omega
  have w2 : wrap64 (((p + 1 : Nat) : Int) - 1) = (p : Int) := by unfold wrap64; omega
  unfold spec_l13Rd_pick.f
  rw [if_neg (by omega), w1, spec_l13Rd_pick.j0, w2]
  by_cases e : b.length = 0
  · refine ⟨0, by omega, ?_⟩
    rw [if_pos (by simp [e])]; rfl
  · have e' : ((b.length : Int) == 0) = false := beq_eq_false_iff_ne.mpr (by omega)
    rw [e', if_neg Bool.false_ne_true]
    by_cases c : (p : Int) < (b.length : Int)
    · obtain ⟨A, hA, eA⟩ := byte_at hb p (by omega)
      refine ⟨A % n, Nat.mod_lt _ (by omega), ?_⟩
      rw [if_pos c, if_pos (by omega), if_neg (by omega), eA, wn A (by omega), tmod_nat]
    · have i1 : p % b.length < b.length := Nat.mod_lt _ (by omega)
      have i2 : (p * 7 + 3) % b.length < b.length := Nat.mod_lt _ (by omega)
      obtain ⟨A, hA, eA⟩ := byte_at hb _ i1
      obtain ⟨B, hB, eB⟩ := byte_at hb _ i2
      have w3a : wrap64 ((p : Int) * 7) = ((p * 7 : Nat) : Int) := by rw [wrap_id (by omega) (by omega)]; omega
      have w3 : wrap64 (((p * 7 : Nat) : Int) + 3) = ((p * 7 + 3 : Nat) : Int) := by rw [wrap_id (by omega) (by omega)]; omega
      have q : p / b.length ≤ 100000 := Nat.le_trans (Nat.div_le_self _ _) hp
      obtain ⟨Q, hQ⟩ : ∃ Q, Q = p / b.length := ⟨_, rfl⟩
      rw [← hQ] at q
      have x1 : wrap64 ((A : Int) * 131) = ((A * 131 : Nat) : Int) := by rw [wrap_id (by omega) (by omega)]; omega
      have x2 : wrap64 ((B : Int) * 1117) = ((B * 1117 : Nat) : Int) := by rw [wrap_id (by omega) (by omega)]; omega
      have x3 : wrap64 ((p : Int) * 29) = ((p * 29 : Nat) : Int) := by rw [wrap_id (by omega) (by omega)]; omega
      have x4 : wrap64 ((Q : Int) * 53) = ((Q * 53 : Nat) : Int) := by rw [wrap_id (by omega) (by omega)]; omega
      have w4 : wrap64 (((A * 131 : Nat) : Int) + ((B * 1117 : Nat) : Int)) = ((A * 131 + B * 1117 : Nat) : Int) := by rw [wrap_id (by omega) (by omega)]; omega
      have w5 : wrap64 (((A * 131 + B * 1117 : Nat) : Int) + ((p * 29 : Nat) : Int)) = ((A * 131 + B * 1117 + p * 29 : Nat) : Int) := by rw [wrap_id (by omega) (by omega)]; omega
      have w6 : wrap64 (((A * 131 + B * 1117 + p * 29 : Nat) : Int) + ((Q * 53 : Nat) : Int)) = ((A * 131 + B * 1117 + p * 29 + Q * 53 : Nat) : Int) := by rw [wrap_id (by omega) (by omega)]; omega
      rw [if_neg c, if_neg (by omega), tmod_nat p b.length, w3a, w3, tmod_nat (p * 7 + 3) b.length, if_pos (by omega), if_pos (by omega), if_pos (by omega), if_pos (by omega), if_neg (by omega), eA, eB, tdiv_nat p b.length, ← hQ, wn A (by omega), wn B (by omega), wn Q (by omega), x1, x2, w4, x3, w5, x4, w6]
      have hX : A * 131 + B * 1117 + p * 29 + Q * 53 < 4611686018427387904 := by omega
      generalize A * 131 + B * 1117 + p * 29 + Q * 53 = X at hX
      have e64 : Int.tdiv (X : Int) 64 = ((X / 64 : Nat) : Int) := rfl
      rw [e64, wn (X / 64) (by omega), xor_nat X (X / 64) hX (by omega), tmod_nat]
      exact ⟨_, Nat.mod_lt _ (by omega), rfl⟩
theorem num_tells {b : List Int} (hb : bytesOk b) (hl : b.length ≤ 2000) (p k : Nat) (l : List Int) (hp : p ≤ 100000) (h1 : 1 ≤ l.length) (hk : 1 ≤ k) : ∃ v, v ∈ l ∧ spec_l13Rd_num.f k b (p : Int) l = some (v, ((p + 1 : Nat) : Int)) := by
  obtain ⟨v, hv, e⟩ := pick_tells hb hl p l.length k hp h1 hk
  refine ⟨rd l (v : Int), rd_mem l _ (by omega) (by omega), ?_⟩
  unfold spec_l13Rd_num.f
  rw [e]
  simp only [Option.bind_some]
  rw [if_pos (by omega), if_pos (by omega)]
theorem open_tells (b : List Int) : ∃ c, c.length ≤ 2000 ∧ (bytesOk b → bytesOk c) ∧ spec_l13Open.f b = some (c, ((0 : Nat) : Int)) := by
  unfold spec_l13Open.f
  by_cases h : (b.length : Int) > 2000
  · refine ⟨b.take 2000, by simp; omega, fun hb x hx => hb x (List.mem_of_mem_take hx), ?_⟩
    rw [if_pos h, if_pos (by omega)]; rfl
  · refine ⟨b, by omega, fun hb => hb, ?_⟩
    rw [if_neg h]; rfl
def okl (n : Nat) (l : List Int) : Prop := ∀ x ∈ l, -1 ≤ x ∧ x < (n : Int)
theorem okl_set {n : Nat} {l : List Int} (h : okl n l) (i : Nat) {v : Int} (hv : -1 ≤ v ∧ v < (n : Int)) : okl n (l.set i v) := by
  intro x hx
  rcases List.mem_or_eq_of_mem_set hx with hx | rfl
  · exact h x hx
  · exact hv
theorem wrap_p1 (n : Nat) (h : n ≤ 1000) : wrap64 ((n : Int) + 1) = ((n + 1 : Nat) : Int) := wrap_id (by omega) (by omega)
theorem wrap_p2 (n : Nat) (h : n ≤ 1000) : wrap64 ((n : Int) + 2) = ((n + 2 : Nat) : Int) := wrap_id (by omega) (by omega)
theorem wrap_m1 (n : Nat) (h : n ≤ 1000) : wrap64 ((n : Int) - 1) = (n : Int) - 1 := wrap_id (by omega) (by omega)
theorem wrap_m2 (n : Nat) (h : n ≤ 1000) : wrap64 ((n : Int) - 2) = (n : Int) - 2 := wrap_id (by omega) (by omega)
theorem drawl1_tells {b : List Int} (hb : bytesOk b) (hl : b.length ≤ 2000) (n : Nat) (h1 : 1 ≤ n) (hn : n ≤ 8) (x y : List Int) : ∀ (d i k p : Nat) (z : List Int), z.length ≤ 100 → i ≤ z.length → z.length - i = d → d + 2 ≤ k → p + d ≤ 90000 → okl n z →
    ∃ z' p', spec_l1Draw.l1 k (n : Int) (i : Int) b (p : Int) x y z = some (x, y, z', ((p' : Nat) : Int)) ∧ z'.length = z.length ∧ okl n z' ∧ p' ≤ p + d := by
  intro d
  induction d with
  | zero =>
    intro i k p z hz3 hi hd hk hp hz
    obtain ⟨k, rfl⟩ : ∃ m, k = m + 1 := ⟨k - 1, by omega⟩
    exact ⟨z, p, by rw [spec_l1Draw.l1, if_neg (by omega)], rfl, hz, by omega⟩
  | succ d ih =>
    intro i k p z hz3 hi hd hk hp hz
    obtain ⟨k, rfl⟩ : ∃ m, k = m + 1 := ⟨k - 1, by omega⟩
    obtain ⟨v, hv, e⟩ := pick_tells hb hl p (n + 1) k (by omega) (by omega) (by omega)
    obtain ⟨z', p', e2, l2, o2, q2⟩ := ih (i + 1) k (p + 1) (z.set i ((v : Int) - 1)) (by simp; omega) (by simp; omega) (by simp; omega) (by omega) (by omega) (okl_set hz i (by omega))
    refine ⟨z', p', ?_, by rw [l2]; simp, o2, by omega⟩
    rw [spec_l1Draw.l1, if_pos (by omega), wrap_p1 n (by omega), e]
    simp only [Option.bind_some]
    rw [if_pos (by omega), wrap_m1 v (by omega), wrap_succ (m := z.length) (by omega) (by omega), Int.toNat_natCast]
    exact e2
theorem drawl0_tells {b : List Int} (hb : bytesOk b) (hl : b.length ≤ 2000) (n : Nat) (h1 : 1 ≤ n) (hn : n ≤ 8) (z : List Int) (hzl : z.length ≤ 3) (hz : okl n z) : ∀ (d i k p : Nat) (x y : List Int), i ≤ n → n - i = d → d + 10 ≤ k → p + 2 * d ≤ 80000 → okl n x → okl n y → x.length = n → y.length = n →
    ∃ x' y' z' p', spec_l1Draw.l0 k (n : Int) (i : Int) b (p : Int) x y z = some (x', y', z', ((p' : Nat) : Int)) ∧ (x'.length = n ∧ y'.length = n ∧ z'.length = z.length) ∧ (okl n x' ∧ okl n y' ∧ okl n z') ∧ p' ≤ p + 2 * d + 3 := by
  intro d
  induction d with
  | zero =>
    intro i k p x y hi hd hk hp hx hy lx ly
    obtain ⟨k, rfl⟩ : ∃ m, k = m + 1 := ⟨k - 1, by omega⟩
    obtain ⟨z', p', e2, l2, o2, q2⟩ := drawl1_tells hb hl n h1 hn x y z.length 0 k p z (by omega) (by omega) (by omega) (by omega) (by omega) hz
    exact ⟨x, y, z', p', by rw [spec_l1Draw.l0, if_neg (by omega)]; exact e2, ⟨lx, ly, l2⟩, ⟨hx, hy, o2⟩, by omega⟩
  | succ d ih =>
    intro i k p x y hi hd hk hp hx hy lx ly
    obtain ⟨k, rfl⟩ : ∃ m, k = m + 1 := ⟨k - 1, by omega⟩
    obtain ⟨v, hv, e⟩ := pick_tells hb hl p (n + 2) k (by omega) (by omega) (by omega)
    obtain ⟨u, hu, f⟩ := pick_tells hb hl (p + 1) (n + 2) k (by omega) (by omega) (by omega)
    have r1 : rd (x.set i ((v : Int) - 1)) (i : Int) = (v : Int) - 1 := by
      have := rd_set_eq x (i : Int) ((v : Int) - 1) (by omega) (by omega)
      rwa [Int.toNat_natCast] at this
    have r2 : rd (y.set i ((u : Int) - 2)) (i : Int) = (u : Int) - 2 := by
      have := rd_set_eq y (i : Int) ((u : Int) - 2) (by omega) (by omega)
      rwa [Int.toNat_natCast] at this
    rw [spec_l1Draw.l0, if_pos (by omega), wrap_p2 n (by omega), e]
    simp only [Option.bind_some]
    rw [if_pos (by omega), if_pos (by omega), f]
    simp only [Option.bind_some]
    rw [if_pos (by omega), wrap_m1 v (by omega), wrap_m2 u (by omega), wrap_succ (m := n) (by omega) (by omega), Int.toNat_natCast]
    simp only [r1, r2]
    have go : ∀ (x2 y2 : List Int), okl n x2 → okl n y2 → x2.length = n → y2.length = n → ∃ x' y' z' p', spec_l1Draw.l0 k (n : Int) ((i + 1 : Nat) : Int) b ((p + 1 + 1 : Nat) : Int) x2 y2 z = some (x', y', z', ((p' : Nat) : Int)) ∧ (x'.length = n ∧ y'.length = n ∧ z'.length = z.length) ∧ (okl n x' ∧ okl n y' ∧ okl n z') ∧ p' ≤ p + 2 * (d + 1) + 3 := by
      intro x2 y2 a1 a2 a3 a4
      obtain ⟨x', y', z', p', g1, g2, g3, g4⟩ := ih (i + 1) k (p + 1 + 1) x2 y2 (by omega) (by omega) (by omega) (by omega) a1 a2 a3 a4
      exact ⟨x', y', z', p', g1, g2, g3, by omega⟩
    by_cases c1 : (v : Int) - 1 ≥ (n : Int)
    · have ox : okl n ((x.set i ((v : Int) - 1)).set i (-1)) := by rw [List.set_set]; exact okl_set hx i (by omega)
      rw [if_pos c1]
      by_cases c2 : (u : Int) - 2 < -1
      · have oy : okl n ((y.set i ((u : Int) - 2)).set i (-1)) := by rw [List.set_set]; exact okl_set hy i (by omega)
        rw [if_pos c2]
        exact go _ _ ox oy (by simp [lx]) (by simp [ly])
      · rw [if_neg c2]
        exact go _ _ ox (okl_set hy i (by omega)) (by simp [lx]) (by simp [ly])
    · rw [if_neg c1]
      by_cases c2 : (u : Int) - 2 < -1
      · have oy : okl n ((y.set i ((u : Int) - 2)).set i (-1)) := by rw [List.set_set]; exact okl_set hy i (by omega)
        rw [if_pos c2]
        exact go _ _ (okl_set hx i (by omega)) oy (by simp [lx]) (by simp [ly])
      · rw [if_neg c2]
        exact go _ _ (okl_set hx i (by omega)) (okl_set hy i (by omega)) (by simp [lx]) (by simp [ly])
theorem draw_tells {b : List Int} (hb : bytesOk b) (hl : b.length ≤ 2000) (p k : Nat) (hp : p ≤ 70000) (hk : 100 ≤ k) : ∃ x y z p', spec_l1Draw.f k b (p : Int) = some (x, y, z, ((p' : Nat) : Int)) ∧ hv x y z = true ∧ p' ≤ p + 30 := by
  obtain ⟨v, hv1, e1⟩ := num_tells hb hl p k [4, 3, 5, 6, 2, 8, 1] (by omega) (by simp) (by omega)
  obtain ⟨u, hu1, e2⟩ := num_tells hb hl (p + 1) k [2, 1, 3] (by omega) (by simp) (by omega)
  have bv : 1 ≤ v ∧ v ≤ 8 := by simp at hv1; omega
  have bu : 1 ≤ u ∧ u ≤ 3 := by simp at hu1; omega
  obtain ⟨n, rfl⟩ : ∃ n : Nat, v = (n : Int) := ⟨v.toNat, by omega⟩
  obtain ⟨m, rfl⟩ : ∃ n : Nat, u = (n : Int) := ⟨u.toNat, by omega⟩
  have hr : ∀ q : Nat, okl n (List.replicate q (-1)) := by
    intro q x hx
    rw [(List.mem_replicate.1 hx).2]; omega
  obtain ⟨x, y, z, p', f1, f2, f3, f4⟩ := drawl0_tells hb hl n (by omega) (by omega) (List.replicate m (-1)) (by simp; omega) (hr m) n 0 k (p + 1 + 1) (List.replicate n (-1)) (List.replicate n (-1)) (by omega) (by omega) (by omega) (by omega) (hr n) (hr n) (by simp) (by simp)
  refine ⟨x, y, z, p', ?_, ?_, by omega⟩
  · unfold spec_l1Draw.f
    rw [e1]
    simp only [Option.bind_some]
    rw [e2]
    simp only [Option.bind_some]
    rw [specNH_tells _ _ k (by omega)]
    simp only [Option.bind_some]
    unfold nhM
    rw [if_pos (by omega), Int.toNat_natCast, Int.toNat_natCast]
    exact f1
  · rw [List.length_replicate] at f2
    refine hv_iff.2 ⟨by omega, ?_, ?_, ?_⟩
    · intro w hw; have := f3.1 w hw; omega
    · intro w hw; have := f3.2.1 w hw; omega
    · intro w hw; have := f3.2.2 w hw; omega
theorem l1Copy_tells (a b c : List Int) (ha : a.length ≤ 1048576) (hb : b.length ≤ 1048576) (hc : c.length ≤ 1048576) : spec_l1Copy.f a b c = some (a, b, c) := by
  unfold spec_l1Copy.f
  simp only [Option.bind_some, List.length_nil, List.nil_append]
  rw [if_pos (by omega), if_pos (by omega), if_pos (by omega)]
def small3 (x y z : List Int) : Prop := x.length ≤ 20 ∧ y.length ≤ 20 ∧ z.length ≤ 20
theorem wrong_tells {b : List Int} (hb : bytesOk b) (hl : b.length ≤ 2000) (p k : Nat) (hp : p ≤ 70000) (hk : 100 ≤ k) (x y z : List Int) (h1 : 1 ≤ x.length) (hx : x.length ≤ 18) (hy : y.length ≤ 18) (hz : z.length ≤ 18) : ∃ x' y' z' p', spec_l1Wrong.f k b (p : Int) x y z = some (x', y', z', ((p' : Nat) : Int)) ∧ (x'.length = x.length ∧ y'.length ≤ y.length + 1 ∧ z'.length ≤ z.length + 1) ∧ p' ≤ p + 3 := by
  obtain ⟨v, hv, e⟩ := pick_tells hb hl p 20 k (by omega) (by omega) (by omega)
  obtain ⟨q, hq⟩ : ∃ q, k = q + 1 := ⟨k - 1, by omega⟩
  have hj : ∀ s0 s1 a b c, spec_l1Wrong.j0 k s0 s1 a b c = some (a, b, c, s1) := fun s0 s1 a b c => by rw [hq]; rfl
  have e' : spec_l13Rd_pick.f k b (p : Int) 20 = some ((v : Int), ((p + 1 : Nat) : Int)) := e
  unfold spec_l1Wrong.f
  rw [l1Copy_tells x y z (by omega) (by omega) (by omega)]
  simp only [Option.bind_some]
  rw [e']
  simp only [Option.bind_some]
  by_cases c0 : (v : Int) = 0
  · obtain ⟨u, hu, f⟩ := pick_tells hb hl (p + 1) x.length k (by omega) h1 (by omega)
    obtain ⟨t, ht, g⟩ := num_tells hb hl (p + 1 + 1) k [-2, 8, 0] (by omega) (by simp) (by omega)
    refine ⟨x.set u t, y, z, p + 1 + 1 + 1, ?_, ⟨?_, ?_, ?_⟩, by omega⟩
    · rw [if_pos c0, f]
      simp only [Option.bind_some]
      rw [g]
      simp only [Option.bind_some]
      rw [if_pos (by omega), if_pos (by omega), Int.toNat_natCast, hj]
    · simp
    · omega
    · omega
  · rw [if_neg c0]
    by_cases c1 : (v : Int) = 1
    · rw [if_pos c1, if_pos (by omega), hj]
      exact ⟨_, _, _, p + 1, rfl, ⟨rfl, by simp, by omega⟩, by omega⟩
    · rw [if_neg c1]
      by_cases c2 : (v : Int) = 2
      · obtain ⟨t, ht, g⟩ := num_tells hb hl (p + 1) k [0, -1, 9] (by omega) (by simp) (by omega)
        rw [if_pos c2, g]
        simp only [Option.bind_some]
        rw [if_pos (by omega), hj]
        exact ⟨_, _, _, p + 1 + 1, rfl, ⟨rfl, by omega, by simp⟩, by omega⟩
      · rw [if_neg c2]
        by_cases c3 : (v : Int) = 3
        · rw [if_pos c3, hj]
          exact ⟨_, _, _, p + 1, rfl, ⟨rfl, by omega, by simp⟩, by omega⟩
        · rw [if_neg c3, hj]
          exact ⟨_, _, _, p + 1, rfl, ⟨rfl, by omega, by omega⟩, by omega⟩
theorem drawHeapValid_tells {code : List Int} (hb0 : bytesOk code) (k : Nat) (hk : 100 ≤ k) : ∃ x y z, spec_DrawHeapValid.f k code = some (x, y, z) ∧ small3 x y z := by
  obtain ⟨b, hl, hb1, e0⟩ := open_tells code
  have hb := hb1 hb0
  obtain ⟨x, y, z, p, e1, h1, q1⟩ := draw_tells hb hl 0 k (by omega) hk
  have hv1 := hv_len h1
  obtain ⟨x', y', z', p', e2, l2, q2⟩ := wrong_tells hb hl p k (by omega) hk x y z (by omega) (by omega) (by omega) (by omega)
  refine ⟨x', y', z', ?_, by unfold small3; omega⟩
  unfold spec_DrawHeapValid.f
  rw [e0]
  simp only [Option.bind_some]
  rw [e1]
  simp only [Option.bind_some]
  rw [e2]
  rfl
theorem drawNewColored_tells {code : List Int} (hb0 : bytesOk code) (k : Nat) (hk : 100 ≤ k) : ∃ x y z, spec_DrawNewColored.f k code = some (x, y, z) ∧ small3 x y z := by
  obtain ⟨x, y, z, e1, s1⟩ := drawHeapValid_tells hb0 k hk
  refine ⟨x, y, z, ?_, s1⟩
  unfold spec_DrawNewColored.f
  rw [e1]
  rfl
theorem copied_tells (a b c : List Int) (ha : a.length ≤ 1048576) (hb : b.length ≤ 1048576) (hc : c.length ≤ 1048576) : impl_copied.f a b c = some (a, b, c) := by
  unfold impl_copied.f slices_Clone_int_int.f
  rw [if_pos (by omega), if_pos (by omega), if_pos (by omega)]
  rfl
theorem fresh_tells (a b c e : List Int) (ha : a.length ≤ 1048576) (hb : b.length ≤ 1048576) (hc : c.length ≤ 1048576) (he : e.length ≤ 1048576) : impl_fresh.f a b c e = some (a, b, c, e) := by
  unfold impl_fresh.f
  rw [copied_tells a b c ha hb hc]
  simp only [Option.bind_some]
  unfold slices_Clone_int_int.f
  rw [if_pos (by omega)]
  rfl
theorem cv_ptr {a b c e : List Int} (h : cv a b c e = true) (i : Nat) (hi : i < e.length) : (rd a (i : Int) = -1 ∨ (0 ≤ rd a (i : Int) ∧ rd a (i : Int) < (e.length : Int))) ∧ (rd b (i : Int) = -1 ∨ (0 ≤ rd b (i : Int) ∧ rd b (i : Int) < (e.length : Int))) := by
  obtain ⟨h1, _, h3⟩ := cv_iff.1 h
  have hl := hv_len h1
  have p1 := (hv_iff.1 h1).2.1 _ (rd_mem a (i : Int) (by omega) (by omega))
  have p2 := (hv_iff.1 h1).2.2.1 _ (rd_mem b (i : Int) (by omega) (by omega))
  omega
/-- Colors behind the shading of a cell (or of none). -/
def sh (e : List Int) (p : Int) : List Int := if p ≠ -1 ∧ rd e p = 0 then e.set p.toNat 1 else e
theorem sh_len (e : List Int) (p : Int) : (sh e p).length = e.length := by unfold sh; split <;> simp
theorem sh_rd {e : List Int} {p q : Int} (hp : p = -1 ∨ (0 ≤ p ∧ p < (e.length : Int))) (hq : 0 ≤ q) : rd (sh e p) q = if q = p ∧ rd e p = 0 then 1 else rd e q := by
  unfold sh
  by_cases h : p ≠ -1 ∧ rd e p = 0
  · obtain ⟨h0, h1⟩ := hp.resolve_left h.1
    rw [if_pos h]
    by_cases g : q = p
    · subst g; rw [rd_set_eq _ _ _ h0 h1, if_pos ⟨rfl, h.2⟩]
    · rw [rd_set_ne _ _ _ _ h0 hq (fun k => g k.symm), if_neg (fun k => g k.1)]
  · rw [if_neg h, if_neg (fun k => h ⟨by omega, k.2⟩)]
theorem sh_col {e : List Int} (h : ∀ x ∈ e, 0 ≤ x ∧ x ≤ 2) (p : Int) : ∀ x ∈ sh e p, 0 ≤ x ∧ x ≤ 2 := by
  unfold sh
  split
  · intro x hx
    rcases List.mem_or_eq_of_mem_set hx with g | rfl
    · exact h x g
    · omega
  · exact h
theorem sh_pos {e : List Int} {p q : Int} (hp : p = -1 ∨ (0 ≤ p ∧ p < (e.length : Int))) (hq : 0 ≤ q) (h : 1 ≤ rd e q) : rd (sh e p) q = rd e q := by
  rw [sh_rd hp hq, if_neg (fun k => by rw [k.1] at h; omega)]
def shAll (c e : List Int) : List Int := c.foldl sh e
theorem shAll_len : ∀ (c e : List Int), (shAll c e).length = e.length
  | [], _ => rfl
  | p :: c, e => (shAll_len c (sh e p)).trans (sh_len e p)
theorem shAll_col : ∀ (c e : List Int), (∀ x ∈ e, 0 ≤ x ∧ x ≤ 2) → ∀ x ∈ shAll c e, 0 ≤ x ∧ x ≤ 2
  | [], _, h => h
  | p :: c, e, h => shAll_col c (sh e p) (sh_col h p)
theorem rd_col {e : List Int} (h : ∀ x ∈ e, 0 ≤ x ∧ x ≤ 2) {q : Int} (h0 : 0 ≤ q) (h1 : q < (e.length : Int)) : 0 ≤ rd e q ∧ rd e q ≤ 2 := h _ (rd_mem e q h0 h1)
/-- A cell behind the shading of many: gray if it was white and is one of them. -/
theorem shAll_rd {n : Nat} : ∀ (c e : List Int), e.length = n → (∀ x ∈ c, -1 ≤ x ∧ x < (n : Int)) → ∀ {q : Int}, 0 ≤ q → rd (shAll c e) q = if q ∈ c ∧ rd e q = 0 then 1 else rd e q
  | [], e, _, _, q, _ => by rw [if_neg (fun k => absurd k.1 (by simp))]; rfl
  | p :: c, e, hn, hc, q, hq => by
    have hp : p = -1 ∨ (0 ≤ p ∧ p < (e.length : Int)) := by have := hc p (by simp); omega
    have ih := shAll_rd c (sh e p) ((sh_len e p).trans hn) (fun x hx => hc x (by simp [hx])) hq
    have r := sh_rd hp hq
    show rd (shAll c (sh e p)) q = _
    rw [ih]
    by_cases g : q = p
    · by_cases z : rd e q = 0
      · have r1 : rd (sh e p) q = 1 := by rw [r, if_pos ⟨g, by rw [← g]; exact z⟩]
        rw [r1, if_neg (fun k => absurd k.2 (by omega)), if_pos ⟨by simp [g], z⟩]
      · have r1 : rd (sh e p) q = rd e q := by rw [r, if_neg (fun k => z (by rw [g]; exact k.2))]
        rw [r1, if_neg (fun k => z k.2), if_neg (fun k => z k.2)]
    · have r1 : rd (sh e p) q = rd e q := by rw [r, if_neg (fun k => g k.1)]
      rw [r1]
      by_cases z : q ∈ c ∧ rd e q = 0
      · rw [if_pos z, if_pos ⟨by simp [z.1], z.2⟩]
      · rw [if_neg z, if_neg (fun k => z ⟨(List.mem_cons.1 k.1).resolve_left g, k.2⟩)]
def srM (a b c e : List Int) : List Int × List Int × List Int × List Int × Bool := if cv a b c e = true then (a, b, c, shAll c e, true) else ([], [], [], [], false)
theorem cv_lens {a b c e : List Int} (h : cv a b c e = true) : a.length = b.length ∧ 1 ≤ a.length ∧ a.length ≤ 8 ∧ 1 ≤ c.length ∧ c.length ≤ 3 ∧ e.length = a.length := by
  obtain ⟨h1, _, h3⟩ := cv_iff.1 h
  have := hv_len h1
  omega
theorem cv_shAll {a b c e : List Int} (h : cv a b c e = true) (l : List Int) : cv a b c (shAll l e) = true := by
  obtain ⟨h1, h2, h3⟩ := cv_iff.1 h
  exact cv_iff.2 ⟨h1, shAll_col l e h2, (shAll_len l e).trans h3⟩
/-- The first place from i on where v stands. -/
def firstFrom (e : List Int) (v : Int) (i : Nat) : Option Nat := ((List.range e.length).drop i).find? (fun (j : Nat) => decide (rd e (j : Int) = v))
theorem firstFrom_nil (e : List Int) (v : Int) (i : Nat) (h : e.length ≤ i) : firstFrom e v i = none := by
  unfold firstFrom; rw [List.drop_eq_nil_of_le (by simpa using h)]; rfl
theorem firstFrom_cons (e : List Int) (v : Int) (i : Nat) (h : i < e.length) : firstFrom e v i = if rd e (i : Int) = v then some i else firstFrom e v (i + 1) := by
  unfold firstFrom
  rw [List.drop_eq_getElem_cons (by simpa using h), List.find?_cons]
  simp only [List.getElem_range]
  by_cases h2 : rd e (i : Int) = v
  · rw [if_pos h2, decide_eq_true h2]
  · rw [if_neg h2, decide_eq_false h2]
theorem firstFrom_some (e : List Int) (v : Int) : ∀ (d i : Nat), e.length - i = d → ∀ j, firstFrom e v i = some j → i ≤ j ∧ j < e.length ∧ rd e (j : Int) = v ∧ ∀ m : Nat, i ≤ m → m < j → rd e (m : Int) ≠ v := by
  intro d
  induction d with
  | zero => intro i hd j hj; rw [firstFrom_nil _ _ _ (by omega)] at hj; exact absurd hj (by simp)
  | succ d ih =>
    intro i hd j hj
    rw [firstFrom_cons _ _ _ (by omega)] at hj
    by_cases h2 : rd e (i : Int) = v
    · rw [if_pos h2] at hj
      obtain rfl := Option.some.inj hj
      exact ⟨by omega, by omega, h2, fun m h3 h4 => by omega⟩
    · rw [if_neg h2] at hj
      obtain ⟨h3, h4, h5, h6⟩ := ih (i + 1) (by omega) j hj
      refine ⟨by omega, h4, h5, fun m h7 h8 => ?_⟩
      by_cases g : m = i
      · subst g; exact h2
      · exact h6 m (by omega) h8
theorem firstFrom_none (e : List Int) (v : Int) : ∀ (d i : Nat), e.length - i = d → firstFrom e v i = none → ∀ m : Nat, i ≤ m → m < e.length → rd e (m : Int) ≠ v := by
  intro d
  induction d with
  | zero => intro i hd _ m h1 h2; omega
  | succ d ih =>
    intro i hd hj m h1 h2
    rw [firstFrom_cons _ _ _ (by omega)] at hj
    by_cases h3 : rd e (i : Int) = v
    · rw [if_pos h3] at hj; exact absurd hj (by simp)
    · rw [if_neg h3] at hj
      by_cases g : m = i
      · subst g; exact h3
      · exact ih (i + 1) (by omega) hj m (by omega) h2
/-- A gray cell made black, what it points to shaded. -/
def blk (a b e : List Int) (i : Nat) : List Int := (sh (sh e (rd a (i : Int))) (rd b (i : Int))).set i 2
theorem blk_len (a b e : List Int) (i : Nat) : (blk a b e i).length = e.length := by unfold blk; rw [List.length_set, sh_len, sh_len]
theorem cv_blk {a b c e : List Int} (h : cv a b c e = true) (i : Nat) : cv a b c (blk a b e i) = true := by
  obtain ⟨h1, h2, h3⟩ := cv_iff.1 h
  refine cv_iff.2 ⟨h1, fun x hx => ?_, (blk_len a b e i).trans h3⟩
  rcases List.mem_or_eq_of_mem_set hx with g | rfl
  · exact sh_col (sh_col h2 _) _ x g
  · omega
/-- A cell's color behind a step at i. -/
theorem blk_rd {a b c e : List Int} (h : cv a b c e = true) {i : Nat} (hi : i < e.length) {q : Int} (h0 : 0 ≤ q) : rd (blk a b e i) q = if q = (i : Int) then 2 else if (q = rd a (i : Int) ∨ q = rd b (i : Int)) ∧ rd e q = 0 then 1 else rd e q := by
  obtain ⟨pa, pb⟩ := cv_ptr h i hi
  unfold blk
  have hl : (sh (sh e (rd a (i : Int))) (rd b (i : Int))).length = e.length := by rw [sh_len, sh_len]
  by_cases g : q = (i : Int)
  · subst g
    rw [if_pos rfl]
    have := rd_set_eq (sh (sh e (rd a (i : Int))) (rd b (i : Int))) (i : Int) 2 (by omega) (by omega)
    rwa [Int.toNat_natCast] at this
  · rw [if_neg g]
    have := rd_set_ne (sh (sh e (rd a (i : Int))) (rd b (i : Int))) (i : Int) q 2 (by omega) h0 (fun k => g k.symm)
    rw [Int.toNat_natCast] at this
    have r1 := sh_rd (e := e) pa h0
    have r2 := sh_rd (e := sh e (rd a (i : Int))) (p := rd b (i : Int)) (by rw [sh_len]; exact pb) h0
    rw [this]
    by_cases z : rd e q = 0
    · by_cases ga : q = rd a (i : Int)
      · have e1 : rd (sh e (rd a (i : Int))) q = 1 := by rw [r1, if_pos ⟨ga, by rw [← ga]; exact z⟩]
        rw [if_pos ⟨Or.inl ga, z⟩, r2, if_neg (fun k => by have k2 := k.2; rw [← k.1] at k2; omega), e1]
      · have e1 : rd (sh e (rd a (i : Int))) q = 0 := by rw [r1, if_neg (fun k => ga k.1), z]
        by_cases gb : q = rd b (i : Int)
        · rw [r2, if_pos ⟨gb, by rw [← gb]; exact e1⟩, if_pos ⟨Or.inr gb, z⟩]
        · rw [r2, if_neg (fun k => gb k.1), if_neg (fun k => k.1.elim ga gb), e1, z]
    · have e1 : rd (sh e (rd a (i : Int))) q = rd e q := by rw [r1, if_neg (fun k => z (by rw [k.1]; exact k.2))]
      rw [r2, if_neg (fun k => z (by rw [← e1, k.1]; exact k.2)), if_neg (fun k => z k.2), e1]
/-- How many cells are not black. -/
def nblk : List Int → Nat
  | [] => 0
  | x :: l => (if x = 2 then 0 else 1) + nblk l
theorem nblk_len (l : List Int) : nblk l ≤ l.length := by
  induction l with
  | nil => simp [nblk]
  | cons x l ih => rw [nblk, List.length_cons]; split <;> omega
theorem nblk_set : ∀ (l : List Int) (i : Nat) (v : Int), i < l.length → nblk (l.set i v) + (if l.getD i 0 = 2 then 0 else 1) = nblk l + (if v = 2 then 0 else 1)
  | [], i, v, h => absurd h (by simp)
  | x :: l, 0, v, h => by
    show (if v = 2 then 0 else 1) + nblk l + (if x = 2 then 0 else 1) = (if x = 2 then 0 else 1) + nblk l + (if v = 2 then 0 else 1)
    omega
  | x :: l, i + 1, v, h => by
    have ih := nblk_set l i v (by simpa using h)
    show (if x = 2 then 0 else 1) + nblk (l.set i v) + (if l.getD i 0 = 2 then 0 else 1) = (if x = 2 then 0 else 1) + nblk l + (if v = 2 then 0 else 1)
    omega
theorem nblk_sh {e : List Int} {p : Int} (hp : p = -1 ∨ (0 ≤ p ∧ p < (e.length : Int))) : nblk (sh e p) = nblk e := by
  unfold sh
  by_cases h : p ≠ -1 ∧ rd e p = 0
  · obtain ⟨h0, h1⟩ := hp.resolve_left h.1
    rw [if_pos h]
    have := nblk_set e p.toNat 1 (by omega)
    have g : e.getD p.toNat 0 = 0 := h.2
    rw [g, if_neg (by omega), if_neg (by omega)] at this
    omega
  · rw [if_neg h]
theorem nblk_blk {a b c e : List Int} (h : cv a b c e = true) {i : Nat} (hi : i < e.length) (hg : rd e (i : Int) = 1) : nblk (blk a b e i) + 1 = nblk e := by
  obtain ⟨pa, pb⟩ := cv_ptr h i hi
  have pb' : rd b (i : Int) = -1 ∨ (0 ≤ rd b (i : Int) ∧ rd b (i : Int) < ((sh e (rd a (i : Int))).length : Int)) := by rw [sh_len]; exact pb
  have r1 := sh_pos (q := (i : Int)) pa (by omega) (by omega)
  have r2 := sh_pos (e := sh e (rd a (i : Int))) (q := (i : Int)) pb' (by omega) (by omega)
  have := nblk_set (sh (sh e (rd a (i : Int))) (rd b (i : Int))) i 2 (by rw [sh_len, sh_len]; exact hi)
  have g : (sh (sh e (rd a (i : Int))) (rd b (i : Int))).getD i 0 = 1 := by
    have : rd (sh (sh e (rd a (i : Int))) (rd b (i : Int))) (i : Int) = 1 := by omega
    unfold rd at this; rwa [Int.toNat_natCast] at this
  rw [g, if_neg (by omega), if_pos rfl, nblk_sh pb', nblk_sh pa] at this
  unfold blk
  omega
/-- All steps. -/
def markN (a b : List Int) : Nat → List Int → List Int
  | 0, e => e
  | n + 1, e => match firstFrom e 1 0 with
    | none => e
    | some i => markN a b n (blk a b e i)
def maM (a b c e : List Int) : List Int × List Int × List Int × List Int × Bool := if cv a b c e = true then (a, b, c, markN a b (nblk e) e, true) else ([], [], [], [], false)
/-- The first place from i on where v stands, or -1. -/
def idxM (e : List Int) (v : Int) (i : Nat) : Int := match firstFrom e v i with | none => -1 | some j => (j : Int)
theorem idxM_nil (e : List Int) (v : Int) (i : Nat) (h : e.length ≤ i) : idxM e v i = -1 := by unfold idxM; rw [firstFrom_nil _ _ _ h]
theorem idxM_cons (e : List Int) (v : Int) (i : Nat) (h : i < e.length) : idxM e v i = if rd e (i : Int) = v then (i : Int) else idxM e v (i + 1) := by
  unfold idxM
  rw [firstFrom_cons _ _ _ h]
  by_cases h2 : rd e (i : Int) = v
  · simp only [if_pos h2]
  · simp only [if_neg h2]
theorem idxM_none {e : List Int} {v : Int} {i : Nat} (h : firstFrom e v i = none) : idxM e v i = -1 := by unfold idxM; rw [h]
theorem idxM_some {e : List Int} {v : Int} {i j : Nat} (h : firstFrom e v i = some j) : idxM e v i = (j : Int) := by unfold idxM; rw [h]
theorem Index_l0 (v : Int) (e : List Int) (he : e.length ≤ 1048576) : ∀ (d i k : Nat), i ≤ e.length → e.length - i = d → d < k → slices_Index_int_int.l0 k e v (e.length : Int) (i : Int) = some (idxM e v i) := by
  intro d
  induction d with
  | zero =>
    intro i k hi hd hk
    obtain ⟨k, rfl⟩ : ∃ m, k = m + 1 := ⟨k - 1, by omega⟩
    rw [slices_Index_int_int.l0, if_neg (by omega), idxM_nil _ _ _ (by omega)]
  | succ d ih =>
    intro i k hi hd hk
    obtain ⟨k, rfl⟩ : ∃ m, k = m + 1 := ⟨k - 1, by omega⟩
    have hlt : i < e.length := by omega
    rw [slices_Index_int_int.l0, if_pos (by omega), if_pos (by omega), if_pos (by omega), idxM_cons _ _ _ hlt, wrap_succ hlt (by omega), ih (i + 1) k (by omega) (by omega) (by omega)]
    by_cases h2 : rd e (i : Int) = v
    · rw [if_pos h2.symm, if_pos h2]
    · rw [if_neg (fun g => h2 g.symm), if_neg h2]
theorem shade_tells {e : List Int} {p : Int} (hp : p = -1 ∨ (0 ≤ p ∧ p < (e.length : Int))) : impl_shade.f e p = some (sh e p) := by
  unfold impl_shade.f sh
  by_cases h : p = -1
  · rw [if_pos h, if_neg (fun k => k.1 h)]
  · obtain ⟨h0, h1⟩ := hp.resolve_left h
    rw [if_neg h, if_pos h0, if_pos h1]
    by_cases g : rd e p = 0
    · rw [if_pos g, if_pos ⟨h, g⟩]
    · rw [if_neg g, if_neg (fun k => g k.2)]
theorem look_tells {a b c e : List Int} (h : cv a b c e = true) (k : Nat) (hk : 1000 ≤ k) : impl_look.f k a b c e = some (match firstFrom e 1 0 with | none => (false, e) | some i => (true, blk a b e i)) := by
  have hl := cv_lens h
  have f0 : slices_Index_int_int.f k e 1 = some (idxM e 1 0) := Index_l0 1 e (by omega) e.length 0 k (by omega) (by omega) (by omega)
  unfold impl_look.f
  rw [f0]
  simp only [Option.bind_some]
  cases hf : firstFrom e 1 0 with
  | none => rw [idxM_none hf, if_pos (by omega)]
  | some i =>
    obtain ⟨_, h2, _, _⟩ := firstFrom_some e 1 _ 0 rfl i hf
    obtain ⟨pa, pb⟩ := cv_ptr h i h2
    rw [idxM_some hf, if_neg (by omega), if_pos (by omega), if_pos (by omega), shade_tells pa]
    simp only [Option.bind_some]
    rw [if_pos (by omega), shade_tells (by rw [sh_len]; exact pb)]
    simp only [Option.bind_some]
    rw [if_pos (by omega), Int.toNat_natCast]
    rfl
theorem implMA_l0 {a b c : List Int} : ∀ (n : Nat) (e : List Int) (k : Nat), nblk e = n → cv a b c e = true → n + 1001 ≤ k → impl_MarkAll.l0 k a b c e = some (a, b, c, markN a b n e, true) := by
  intro n
  induction n with
  | zero =>
    intro e k hn h hk
    obtain ⟨k, rfl⟩ : ∃ m, k = m + 1 := ⟨k - 1, by omega⟩
    rw [impl_MarkAll.l0, look_tells h k (by omega)]
    simp only [Option.bind_some]
    cases hf : firstFrom e 1 0 with
    | none => rw [if_neg (by simp)]; rfl
    | some i =>
      obtain ⟨_, h2, h3, _⟩ := firstFrom_some e 1 _ 0 rfl i hf
      have := nblk_blk h h2 h3
      omega
  | succ n ih =>
    intro e k hn h hk
    obtain ⟨k, rfl⟩ : ∃ m, k = m + 1 := ⟨k - 1, by omega⟩
    rw [impl_MarkAll.l0, look_tells h k (by omega), markN]
    simp only [Option.bind_some]
    cases hf : firstFrom e 1 0 with
    | none => rw [if_neg (by simp)]
    | some i =>
      obtain ⟨_, h2, h3, _⟩ := firstFrom_some e 1 _ 0 rfl i hf
      have := nblk_blk h h2 h3
      rw [if_pos rfl]
      exact ih (blk a b e i) k (by omega) (cv_blk h i) (by omega)
theorem implMA_tells (a b c e : List Int) (k : Nat) (he : e.length ≤ 1048576) (hk : 1048601 ≤ k) : impl_MarkAll.f k a b c e = some (maM a b c e) := by
  unfold impl_MarkAll.f
  rw [implCV_tells a b c e _ he (by omega)]
  simp only [Option.bind_some]
  unfold maM
  by_cases h : cv a b c e = true
  · have hl := cv_lens h
    have hn := nblk_len e
    rw [if_pos h, if_pos h, fresh_tells a b c e (by omega) (by omega) (by omega) he]
    simp only [Option.bind_some]
    exact implMA_l0 (nblk e) e k rfl h (by omega)
  · rw [if_neg h, if_neg h]
/-- How many are not -1. -/
def cnt (l : List Int) : Nat := l.countP (fun x => decide (x ≠ -1))
/-- How many numbers are negative. -/
def negs : List Int → Nat
  | [] => 0
  | x :: l => (if x < 0 then 1 else 0) + negs l
theorem negs_rep (n : Nat) : negs (List.replicate n (-1)) = n := by
  induction n with
  | zero => rfl
  | succ n ih => rw [List.replicate_succ, negs, ih, if_pos (by omega)]; omega
theorem negs_set : ∀ (l : List Int) (i : Nat) (v : Int), i < l.length → l.getD i 0 < 0 → 0 ≤ v → negs (l.set i v) + 1 = negs l
  | [], i, v, h, _, _ => absurd h (by simp)
  | x :: l, 0, v, h, h2, h3 => by
    have h2' : x < 0 := h2
    rw [List.set_cons_zero, negs, negs, if_neg (by omega), if_pos h2']; omega
  | x :: l, i + 1, v, h, h2, h3 => by
    have := negs_set l i v (by simpa using h) (by simpa using h2) h3
    rw [List.set_cons_succ, negs, negs]; omega
/-- A pointer is met: the cells' distances, the cells met so far. -/
def bm (s : List Int × List Int) (p far : Int) : List Int × List Int := if p ≠ -1 ∧ rd s.1 p < 0 then (s.1.set p.toNat far, s.2 ++ [p]) else s
def bstep (a b : List Int) (s : List Int × List Int) (i : Int) : List Int × List Int :=
  bm (bm s (rd a (rd s.2 i)) (rd s.1 (rd s.2 i) + 1)) (rd b (rd s.2 i)) (rd s.1 (rd s.2 i) + 1)
def broots (c : List Int) (s : List Int × List Int) : List Int × List Int := c.foldl (fun s p => bm s p 1) s
def bloop (a b : List Int) : Nat → Nat → List Int × List Int → List Int × List Int
  | 0, _, s => s
  | m + 1, i, s => if i < s.2.length then bloop a b m (i + 1) (bstep a b s (i : Int)) else s
def bstart (n : Nat) : List Int × List Int := (List.replicate n (-1), [])
/-- The distances of all cells from some cells, or -1. -/
def distM (a b c : List Int) : List Int := (bloop a b (a.length + 1) 0 (broots c (bstart a.length))).1
structure Binv (n : Nat) (s : List Int × List Int) : Prop where
  len : s.1.length = n
  op : ∀ x ∈ s.2, 0 ≤ x ∧ x < (n : Int) ∧ 1 ≤ rd s.1 x
  val : ∀ x : Int, 0 ≤ x → x < (n : Int) → rd s.1 x = -1 ∨ (1 ≤ rd s.1 x ∧ rd s.1 x ≤ (s.2.length : Int))
  cnt : s.2.length + negs s.1 = n
theorem Binv.le {n : Nat} {s : List Int × List Int} (h : Binv n s) : s.2.length ≤ n := by have := h.cnt; omega
theorem rd_rep (n : Nat) (v x : Int) (h0 : 0 ≤ x) (h : x < (n : Int)) : rd (List.replicate n v) x = v := by
  unfold rd; rw [List.getD_eq_getElem?_getD, List.getElem?_replicate, if_pos (by omega)]; rfl
theorem bstart_inv (n : Nat) : Binv n (bstart n) := by
  refine ⟨by simp [bstart], fun x hx => absurd hx (by simp [bstart]), fun x h0 h1 => Or.inl ?_, by simp [bstart, negs_rep]⟩
  exact rd_rep n (-1) x h0 h1
theorem bm_inv {n : Nat} {s : List Int × List Int} (h : Binv n s) {p far : Int} (hp : p = -1 ∨ (0 ≤ p ∧ p < (n : Int))) (h1 : 1 ≤ far) (h2 : far ≤ (s.2.length : Int) + 1) : Binv n (bm s p far) := by
  unfold bm
  by_cases c : p ≠ -1 ∧ rd s.1 p < 0
  · rw [if_pos c]
    obtain ⟨hp0, hp1⟩ : 0 ≤ p ∧ p < (n : Int) := hp.resolve_left c.1
    have hl := h.len
    refine ⟨by simp [hl], fun x hx => ?_, fun x h0 hx => ?_, ?_⟩
    · rcases List.mem_append.1 hx with hx | hx
      · obtain ⟨a0, a1, a2⟩ := h.op x hx
        refine ⟨a0, a1, ?_⟩
        show 1 ≤ rd (s.1.set p.toNat far) x
        by_cases e : p = x
        · subst e; rw [rd_set_eq _ _ _ a0 (by omega)]; exact h1
        · rw [rd_set_ne _ _ _ _ hp0 a0 e]; exact a2
      · obtain rfl : x = p := by simpa using hx
        refine ⟨hp0, hp1, ?_⟩
        show 1 ≤ rd (s.1.set x.toNat far) x
        rw [rd_set_eq _ _ _ hp0 (by omega)]; exact h1
    · show rd (s.1.set p.toNat far) x = -1 ∨ (1 ≤ rd (s.1.set p.toNat far) x ∧ rd (s.1.set p.toNat far) x ≤ ((s.2 ++ [p]).length : Int))
      have el : ((s.2 ++ [p]).length : Int) = (s.2.length : Int) + 1 := by simp
      rw [el]
      by_cases e : p = x
      · subst e; rw [rd_set_eq _ _ _ h0 (by omega)]; exact Or.inr ⟨h1, h2⟩
      · rw [rd_set_ne _ _ _ _ hp0 h0 e]
        rcases h.val x h0 hx with v | v
        · exact Or.inl v
        · exact Or.inr ⟨v.1, by omega⟩
    · show (s.2 ++ [p]).length + negs (s.1.set p.toNat far) = n
      have := negs_set s.1 p.toNat far (by omega) c.2 (by omega)
      have := h.cnt
      simp; omega
  · rw [if_neg c]; exact h
theorem bm_keep {n : Nat} {s : List Int × List Int} (h : Binv n s) {p far : Int} (hp : p = -1 ∨ (0 ≤ p ∧ p < (n : Int))) {x : Int} (h0 : 0 ≤ x) (hx : 1 ≤ rd s.1 x) : rd (bm s p far).1 x = rd s.1 x := by
  unfold bm
  by_cases c : p ≠ -1 ∧ rd s.1 p < 0
  · rw [if_pos c]
    obtain ⟨hp0, hp1⟩ : 0 ≤ p ∧ p < (n : Int) := hp.resolve_left c.1
    exact rd_set_ne _ _ _ _ hp0 h0 (fun e => by subst e; omega)
  · rw [if_neg c]
theorem bm_len (s : List Int × List Int) (p far : Int) : s.2.length ≤ (bm s p far).2.length := by unfold bm; split <;> simp
theorem bm_op (s : List Int × List Int) (p far : Int) (i : Int) (h0 : 0 ≤ i) (h : i < (s.2.length : Int)) : rd (bm s p far).2 i = rd s.2 i := by
  unfold bm
  split
  · exact rd_app _ _ _ h0 h
  · rfl
theorem okp_ptr {n : Nat} {l : List Int} (h : ∀ x ∈ l, -1 ≤ x ∧ x < (n : Int)) {i : Int} (h0 : 0 ≤ i) (h1 : i < (l.length : Int)) : rd l i = -1 ∨ (0 ≤ rd l i ∧ rd l i < (n : Int)) := by
  have := h _ (rd_mem l i h0 h1); omega
theorem bstep_inv {n : Nat} {a b : List Int} (ha : a.length = n) (hb : b.length = n) (ga : ∀ x ∈ a, -1 ≤ x ∧ x < (n : Int)) (gb : ∀ x ∈ b, -1 ≤ x ∧ x < (n : Int)) {s : List Int × List Int} (h : Binv n s) {i : Int} (h0 : 0 ≤ i) (h1 : i < (s.2.length : Int)) : Binv n (bstep a b s i) := by
  have hc := h.op _ (rd_mem s.2 i h0 h1)
  have hv : 1 ≤ rd s.1 (rd s.2 i) ∧ rd s.1 (rd s.2 i) ≤ (s.2.length : Int) := by
    rcases h.val _ hc.1 hc.2.1 with v | v
    · omega
    · exact v
  have i1 := bm_inv h (p := rd a (rd s.2 i)) (far := rd s.1 (rd s.2 i) + 1) (okp_ptr ga hc.1 (by omega)) (by omega) (by omega)
  exact bm_inv i1 (okp_ptr gb hc.1 (by omega)) (by omega) (by have := bm_len s (rd a (rd s.2 i)) (rd s.1 (rd s.2 i) + 1); omega)
theorem bstep_len (a b : List Int) (s : List Int × List Int) (i : Int) : s.2.length ≤ (bstep a b s i).2.length := Nat.le_trans (bm_len _ _ _) (bm_len _ _ _)
theorem broots_inv {n : Nat} : ∀ (c : List Int) (s : List Int × List Int), (∀ x ∈ c, -1 ≤ x ∧ x < (n : Int)) → Binv n s → Binv n (broots c s)
  | [], s, _, h => h
  | p :: c, s, hc, h => broots_inv c (bm s p 1) (fun x hx => hc x (by simp [hx])) (bm_inv h (by have := hc p (by simp); omega) (by omega) (by omega))
theorem bloop_inv {n : Nat} {a b : List Int} (ha : a.length = n) (hb : b.length = n) (ga : ∀ x ∈ a, -1 ≤ x ∧ x < (n : Int)) (gb : ∀ x ∈ b, -1 ≤ x ∧ x < (n : Int)) : ∀ (m i : Nat) (s : List Int × List Int), Binv n s → Binv n (bloop a b m i s)
  | 0, _, _, h => h
  | m + 1, i, s, h => by
    rw [bloop]
    split
    · exact bloop_inv ha hb ga gb m (i + 1) _ (bstep_inv ha hb ga gb h (by omega) (by omega))
    · exact h
theorem distM_inv {a b c : List Int} (hb : b.length = a.length) (ga : ∀ x ∈ a, -1 ≤ x ∧ x < (a.length : Int)) (gb : ∀ x ∈ b, -1 ≤ x ∧ x < (a.length : Int)) (gc : ∀ x ∈ c, -1 ≤ x ∧ x < (a.length : Int)) : Binv a.length (bloop a b (a.length + 1) 0 (broots c (bstart a.length))) :=
  bloop_inv rfl hb ga gb _ _ _ (broots_inv c _ gc (bstart_inv _))
/-- What a valid heap gives for the distances. -/
theorem hv_a {a b c : List Int} (h : hv a b c = true) : ∀ x ∈ a, -1 ≤ x ∧ x < (a.length : Int) := (hv_iff.1 h).2.1
theorem hv_b {a b c : List Int} (h : hv a b c = true) : ∀ x ∈ b, -1 ≤ x ∧ x < (a.length : Int) := (hv_iff.1 h).2.2.1
theorem hv_c {a b c : List Int} (h : hv a b c = true) : ∀ x ∈ c, -1 ≤ x ∧ x < (a.length : Int) := (hv_iff.1 h).2.2.2
theorem distM_len {a b c : List Int} (hb : b.length = a.length) (ga : ∀ x ∈ a, -1 ≤ x ∧ x < (a.length : Int)) (gb : ∀ x ∈ b, -1 ≤ x ∧ x < (a.length : Int)) (gc : ∀ x ∈ c, -1 ≤ x ∧ x < (a.length : Int)) : (distM a b c).length = a.length := (distM_inv hb ga gb gc).len
/-- The pointers of the first i met cells are met; the reached cells are the met ones. -/
structure Bcl (n : Nat) (a b : List Int) (i : Nat) (s : List Int × List Int) : Prop where
  le : i ≤ s.2.length
  ptr : ∀ j : Nat, j < i → (rd a (rd s.2 (j : Int)) = -1 ∨ 1 ≤ rd s.1 (rd a (rd s.2 (j : Int)))) ∧ (rd b (rd s.2 (j : Int)) = -1 ∨ 1 ≤ rd s.1 (rd b (rd s.2 (j : Int))))
  mem : ∀ x : Int, 0 ≤ x → x < (n : Int) → 1 ≤ rd s.1 x → x ∈ s.2
theorem bm_met {n : Nat} {s : List Int × List Int} (h : Binv n s) {p far : Int} (hp : p = -1 ∨ (0 ≤ p ∧ p < (n : Int))) (h1 : 1 ≤ far) : p = -1 ∨ 1 ≤ rd (bm s p far).1 p := by
  by_cases c1 : p = -1
  · exact Or.inl c1
  · obtain ⟨p0, p1⟩ := hp.resolve_left c1
    have hl := h.len
    refine Or.inr ?_
    unfold bm
    by_cases c2 : rd s.1 p < 0
    · rw [if_pos ⟨c1, c2⟩]
      show 1 ≤ rd (s.1.set p.toNat far) p
      rw [rd_set_eq _ _ _ p0 (by omega)]; exact h1
    · rw [if_neg (fun hh => c2 hh.2)]
      rcases h.val p p0 p1 with v | v
      · omega
      · exact v.1
theorem bm_up {n : Nat} {s : List Int × List Int} (h : Binv n s) {p far : Int} (hp : p = -1 ∨ (0 ≤ p ∧ p < (n : Int))) {q : Int} (hq : q = -1 ∨ (0 ≤ q ∧ 1 ≤ rd s.1 q)) : q = -1 ∨ 1 ≤ rd (bm s p far).1 q := by
  rcases hq with hq | ⟨q0, q1⟩
  · exact Or.inl hq
  · exact Or.inr (by rw [bm_keep h hp q0 q1]; exact q1)
theorem bm_mem {n : Nat} {s : List Int × List Int} (h : Binv n s) (hm : ∀ x : Int, 0 ≤ x → x < (n : Int) → 1 ≤ rd s.1 x → x ∈ s.2) {p far : Int} (hp : p = -1 ∨ (0 ≤ p ∧ p < (n : Int))) : ∀ x : Int, 0 ≤ x → x < (n : Int) → 1 ≤ rd (bm s p far).1 x → x ∈ (bm s p far).2 := by
  intro x x0 x1 x2
  unfold bm at x2 ⊢
  by_cases c : p ≠ -1 ∧ rd s.1 p < 0
  · rw [if_pos c] at x2 ⊢
    obtain ⟨p0, p1⟩ := hp.resolve_left c.1
    have x2' : 1 ≤ rd (s.1.set p.toNat far) x := x2
    show x ∈ s.2 ++ [p]
    by_cases e : p = x
    · subst e; simp
    · rw [rd_set_ne _ _ _ _ p0 x0 e] at x2'
      exact List.mem_append_left _ (hm x x0 x1 x2')
  · rw [if_neg c] at x2 ⊢
    exact hm x x0 x1 x2
theorem bm_cl {n : Nat} {a b : List Int} {i : Nat} {s : List Int × List Int} (h : Binv n s) (g : Bcl n a b i s) (ga : ∀ j : Nat, j < i → rd a (rd s.2 (j : Int)) = -1 ∨ (0 ≤ rd a (rd s.2 (j : Int)))) (gb : ∀ j : Nat, j < i → rd b (rd s.2 (j : Int)) = -1 ∨ (0 ≤ rd b (rd s.2 (j : Int)))) {p far : Int} (hp : p = -1 ∨ (0 ≤ p ∧ p < (n : Int))) : Bcl n a b i (bm s p far) := by
  have hle := bm_len s p far
  refine ⟨Nat.le_trans g.le hle, fun j hj => ?_, bm_mem h g.mem hp⟩
  have gle := g.le
  have e := bm_op s p far (j : Int) (by omega) (by omega)
  rw [e]
  have g1 := g.ptr j hj
  have a1 := ga j hj
  have b1 := gb j hj
  exact ⟨bm_up h hp (by have := g1.1; omega), bm_up h hp (by have := g1.2; omega)⟩
theorem ptr_ok {n : Nat} {l : List Int} (hl : l.length = n) (g : ∀ x ∈ l, -1 ≤ x ∧ x < (n : Int)) {s : List Int × List Int} (h : Binv n s) {j : Nat} (hj : j < s.2.length) : rd l (rd s.2 (j : Int)) = -1 ∨ (0 ≤ rd l (rd s.2 (j : Int)) ∧ rd l (rd s.2 (j : Int)) < (n : Int)) := by
  have hc := h.op _ (rd_mem s.2 (j : Int) (by omega) (by omega))
  exact okp_ptr g hc.1 (by omega)
theorem bstep_cl {n : Nat} {a b : List Int} (ha : a.length = n) (hb : b.length = n) (ga : ∀ x ∈ a, -1 ≤ x ∧ x < (n : Int)) (gb : ∀ x ∈ b, -1 ≤ x ∧ x < (n : Int)) {s : List Int × List Int} (h : Binv n s) {i : Nat} (g : Bcl n a b i s) (h1 : i < s.2.length) : Bcl n a b (i + 1) (bstep a b s (i : Int)) := by
  have hc := h.op _ (rd_mem s.2 (i : Int) (by omega) (by omega))
  have hv : 1 ≤ rd s.1 (rd s.2 (i : Int)) ∧ rd s.1 (rd s.2 (i : Int)) ≤ (s.2.length : Int) := by
    rcases h.val _ hc.1 hc.2.1 with v | v
    · omega
    · exact v
  have pa := ptr_ok ha ga h h1
  have pb := ptr_ok hb gb h h1
  have i1 := bm_inv h (p := rd a (rd s.2 (i : Int))) (far := rd s.1 (rd s.2 (i : Int)) + 1) pa (by omega) (by omega)
  have l1 := bm_len s (rd a (rd s.2 (i : Int))) (rd s.1 (rd s.2 (i : Int)) + 1)
  have gle := g.le
  have la : ∀ j : Nat, j < i → rd a (rd s.2 (j : Int)) = -1 ∨ 0 ≤ rd a (rd s.2 (j : Int)) := fun j hj => by have := ptr_ok ha ga h (j := j) (by omega); omega
  have lb : ∀ j : Nat, j < i → rd b (rd s.2 (j : Int)) = -1 ∨ 0 ≤ rd b (rd s.2 (j : Int)) := fun j hj => by have := ptr_ok hb gb h (j := j) (by omega); omega
  have c1 := bm_cl h g la lb (p := rd a (rd s.2 (i : Int))) (far := rd s.1 (rd s.2 (i : Int)) + 1) pa
  have m1 := bm_met h (p := rd a (rd s.2 (i : Int))) (far := rd s.1 (rd s.2 (i : Int)) + 1) pa (by omega)
  have e1 : ∀ j : Nat, j < s.2.length → rd (bm s (rd a (rd s.2 (i : Int))) (rd s.1 (rd s.2 (i : Int)) + 1)).2 (j : Int) = rd s.2 (j : Int) := fun j hj => bm_op _ _ _ _ (by omega) (by omega)
  have c2 := bm_cl i1 c1 (fun j hj => by rw [e1 j (by omega)]; exact la j hj) (fun j hj => by rw [e1 j (by omega)]; exact lb j hj) (p := rd b (rd s.2 (i : Int))) (far := rd s.1 (rd s.2 (i : Int)) + 1) pb
  have m2 := bm_met i1 (p := rd b (rd s.2 (i : Int))) (far := rd s.1 (rd s.2 (i : Int)) + 1) pb (by omega)
  have m3 := bm_up i1 (p := rd b (rd s.2 (i : Int))) (far := rd s.1 (rd s.2 (i : Int)) + 1) pb (q := rd a (rd s.2 (i : Int))) (by omega)
  have l2 := bstep_len a b s (i : Int)
  refine ⟨by omega, fun j hj => ?_, c2.mem⟩
  by_cases e : j = i
  · subst e
    have e2 : rd (bstep a b s (j : Int)).2 (j : Int) = rd s.2 (j : Int) := by
      unfold bstep
      rw [bm_op _ _ _ _ (by omega) (by omega), e1 j h1]
    rw [e2]
    exact ⟨m3, m2⟩
  · exact c2.ptr j (by omega)
theorem bloop_cl {n : Nat} {a b : List Int} (ha : a.length = n) (hb : b.length = n) (ga : ∀ x ∈ a, -1 ≤ x ∧ x < (n : Int)) (gb : ∀ x ∈ b, -1 ≤ x ∧ x < (n : Int)) : ∀ (m i : Nat) (s : List Int × List Int), Binv n s → Bcl n a b i s → n < m + i → Bcl n a b (bloop a b m i s).2.length (bloop a b m i s)
  | 0, i, s, h, g, hm => by
    have := h.le
    have := g.le
    rw [bloop]; omega
  | m + 1, i, s, h, g, hm => by
    rw [bloop]
    by_cases c : i < s.2.length
    · rw [if_pos c]
      exact bloop_cl ha hb ga gb m (i + 1) _ (bstep_inv ha hb ga gb h (by omega) (by omega)) (bstep_cl ha hb ga gb h g c) (by omega)
    · rw [if_neg c]
      have e : i = s.2.length := by have := g.le; omega
      rw [← e]; exact g
theorem bstart_cl (n : Nat) (a b : List Int) : Bcl n a b 0 (bstart n) := by
  refine ⟨by omega, fun j hj => by omega, fun x h0 h1 h2 => ?_⟩
  have : rd (bstart n).1 x = -1 := rd_rep n (-1) x h0 h1
  omega
theorem broots_cl {n : Nat} {a b : List Int} : ∀ (c : List Int) (s : List Int × List Int), (∀ x ∈ c, -1 ≤ x ∧ x < (n : Int)) → Binv n s → Bcl n a b 0 s → Bcl n a b 0 (broots c s)
  | [], s, _, _, g => g
  | p :: c, s, hc, h, g => broots_cl c (bm s p 1) (fun x hx => hc x (by simp [hx])) (bm_inv h (by have := hc p (by simp); omega) (by omega) (by omega)) (bm_cl h g (fun j hj => by omega) (fun j hj => by omega) (by have := hc p (by simp); omega))
theorem broots_keep {n : Nat} : ∀ (c : List Int) (s : List Int × List Int), (∀ x ∈ c, -1 ≤ x ∧ x < (n : Int)) → Binv n s → ∀ {x : Int}, 0 ≤ x → 1 ≤ rd s.1 x → rd (broots c s).1 x = rd s.1 x
  | [], s, _, _, x, _, _ => rfl
  | p :: c, s, hc, h, x, h0, h1 => by
    have pp : p = -1 ∨ (0 ≤ p ∧ p < (n : Int)) := by have := hc p (by simp); omega
    have k1 := bm_keep h pp (far := 1) h0 h1
    have := broots_keep c (bm s p 1) (fun x hx => hc x (by simp [hx])) (bm_inv h pp (by omega) (by omega)) h0 (by omega)
    exact this.trans k1
theorem bloop_keep {n : Nat} {a b : List Int} (ha : a.length = n) (hb : b.length = n) (ga : ∀ x ∈ a, -1 ≤ x ∧ x < (n : Int)) (gb : ∀ x ∈ b, -1 ≤ x ∧ x < (n : Int)) : ∀ (m i : Nat) (s : List Int × List Int), Binv n s → ∀ {x : Int}, 0 ≤ x → 1 ≤ rd s.1 x → rd (bloop a b m i s).1 x = rd s.1 x
  | 0, _, _, _, _, _, _ => rfl
  | m + 1, i, s, h, x, h0, h1 => by
    rw [bloop]
    by_cases c : i < s.2.length
    · rw [if_pos c]
      have pa := ptr_ok ha ga h c
      have pb := ptr_ok hb gb h c
      have hc := h.op _ (rd_mem s.2 (i : Int) (by omega) (by omega))
      have hv : 1 ≤ rd s.1 (rd s.2 (i : Int)) ∧ rd s.1 (rd s.2 (i : Int)) ≤ (s.2.length : Int) := by
        rcases h.val _ hc.1 hc.2.1 with v | v
        · omega
        · exact v
      have i1 := bm_inv h (p := rd a (rd s.2 (i : Int))) (far := rd s.1 (rd s.2 (i : Int)) + 1) pa (by omega) (by omega)
      have k1 := bm_keep h pa (far := rd s.1 (rd s.2 (i : Int)) + 1) h0 h1
      have k2 := bm_keep i1 pb (far := rd s.1 (rd s.2 (i : Int)) + 1) h0 (by omega)
      have k3 : rd (bstep a b s (i : Int)).1 x = rd s.1 x := k2.trans k1
      exact (bloop_keep ha hb ga gb m (i + 1) _ (bstep_inv ha hb ga gb h (by omega) (by omega)) h0 (by omega)).trans k3
    · rw [if_neg c]
theorem broots_one {n : Nat} : ∀ (c : List Int) (s : List Int × List Int), (∀ x ∈ c, -1 ≤ x ∧ x < (n : Int)) → Binv n s → ∀ p ∈ c, p = -1 ∨ 1 ≤ rd (broots c s).1 p
  | [], _, _, _, p, hp => absurd hp (by simp)
  | q :: c, s, hc, h, p, hp => by
    have pq : q = -1 ∨ (0 ≤ q ∧ q < (n : Int)) := by have := hc q (by simp); omega
    have i1 := bm_inv h pq (far := 1) (by omega) (by omega)
    rcases List.mem_cons.1 hp with e | hp
    · subst e
      rcases bm_met h pq (far := 1) (by omega) with r | r
      · exact Or.inl r
      · by_cases c1 : p = -1
        · exact Or.inl c1
        · have := broots_keep c (bm s p 1) (fun x hx => hc x (by simp [hx])) i1 (x := p) (by omega) r
          refine Or.inr ?_
          show 1 ≤ rd (broots c (bm s p 1)).1 p
          rw [this]; exact r
    · exact broots_one c (bm s q 1) (fun x hx => hc x (by simp [hx])) i1 p hp
/-- x is reached from the starts c by a way of d cells. -/
def way (a b c : List Int) : Nat → Int → Prop
  | 0, _ => False
  | d + 1, y => 0 ≤ y ∧ ((d = 0 ∧ y ∈ c) ∨ ∃ x : Int, way a b c d x ∧ (rd a x = y ∨ rd b x = y))
theorem way_start {a b c : List Int} {y : Int} (h0 : 0 ≤ y) (h : y ∈ c) : way a b c 1 y := ⟨h0, Or.inl ⟨rfl, h⟩⟩
theorem way_next {a b c : List Int} {d : Nat} {x y : Int} (h : way a b c d x) (h0 : 0 ≤ y) (e : rd a x = y ∨ rd b x = y) : way a b c (d + 1) y := ⟨h0, Or.inr ⟨x, h, e⟩⟩
theorem way_nonneg {a b c : List Int} {d : Nat} {x : Int} (h : way a b c d x) : 0 ≤ x := by
  cases d with
  | zero => exact absurd h (fun h => h)
  | succ d => exact h.1
theorem way_lt {n : Nat} {a b c : List Int} (ha : a.length = n) (hb : b.length = n) (ga : ∀ x ∈ a, -1 ≤ x ∧ x < (n : Int)) (gb : ∀ x ∈ b, -1 ≤ x ∧ x < (n : Int)) (gc : ∀ x ∈ c, -1 ≤ x ∧ x < (n : Int)) : ∀ (d : Nat) (x : Int), way a b c d x → x < (n : Int)
  | 0, _, h => absurd h (fun h => h)
  | d + 1, y, h => by
    rcases h.2 with ⟨_, e⟩ | ⟨x, hx, e⟩
    · exact (gc y e).2
    · have h0 := way_nonneg hx
      have h1 := way_lt ha hb ga gb gc d x hx
      rcases e with e | e
      · rw [← e]; exact (ga _ (rd_mem a x h0 (by omega))).2
      · rw [← e]; exact (gb _ (rd_mem b x h0 (by omega))).2
/-- What holds of a met cell and its distance when it is met. -/
def Ball (n : Nat) (P : Int → Int → Prop) (s : List Int × List Int) : Prop := ∀ x : Int, 0 ≤ x → x < (n : Int) → 1 ≤ rd s.1 x → P (rd s.1 x) x
theorem bm_ball {n : Nat} {P : Int → Int → Prop} {s : List Int × List Int} (h : Binv n s) (g : Ball n P s) {p far : Int} (hp : p = -1 ∨ (0 ≤ p ∧ p < (n : Int))) (hP : p ≠ -1 → P far p) : Ball n P (bm s p far) := by
  intro x h0 h1 h2
  unfold bm at h2 ⊢
  by_cases c : p ≠ -1 ∧ rd s.1 p < 0
  · rw [if_pos c] at h2 ⊢
    have hl := h.len
    obtain ⟨p0, p1⟩ := hp.resolve_left c.1
    have h2' : 1 ≤ rd (s.1.set p.toNat far) x := h2
    show P (rd (s.1.set p.toNat far) x) x
    by_cases e : p = x
    · subst e; rw [rd_set_eq _ _ _ h0 (by omega)]; exact hP c.1
    · rw [rd_set_ne _ _ _ _ p0 h0 e] at h2' ⊢; exact g x h0 h1 h2'
  · rw [if_neg c] at h2 ⊢; exact g x h0 h1 h2
theorem bstart_ball (n : Nat) (P : Int → Int → Prop) : Ball n P (bstart n) := by
  intro x h0 h1 h2
  have : rd (bstart n).1 x = -1 := rd_rep n (-1) x h0 h1
  omega
theorem broots_ball {n : Nat} {P : Int → Int → Prop} : ∀ (c : List Int) (s : List Int × List Int), (∀ x ∈ c, -1 ≤ x ∧ x < (n : Int)) → (∀ x ∈ c, x ≠ -1 → P 1 x) → Binv n s → Ball n P s → Ball n P (broots c s)
  | [], s, _, _, _, g => g
  | p :: c, s, hc, hP, h, g => by
    have pp : p = -1 ∨ (0 ≤ p ∧ p < (n : Int)) := by have := hc p (by simp); omega
    exact broots_ball c (bm s p 1) (fun x hx => hc x (by simp [hx])) (fun x hx => hP x (by simp [hx])) (bm_inv h pp (by omega) (by omega)) (bm_ball h g pp (hP p (by simp)))
theorem bstep_ball {n : Nat} {P : Int → Int → Prop} {a b : List Int} (ha : a.length = n) (hb : b.length = n) (ga : ∀ x ∈ a, -1 ≤ x ∧ x < (n : Int)) (gb : ∀ x ∈ b, -1 ≤ x ∧ x < (n : Int)) (hP : ∀ (d x y : Int), 1 ≤ d → 0 ≤ x → x < (n : Int) → P d x → (rd a x = y ∨ rd b x = y) → y ≠ -1 → P (d + 1) y) {s : List Int × List Int} (h : Binv n s) (g : Ball n P s) {i : Nat} (h1 : i < s.2.length) : Ball n P (bstep a b s (i : Int)) := by
  have hc := h.op _ (rd_mem s.2 (i : Int) (by omega) (by omega))
  have hv : 1 ≤ rd s.1 (rd s.2 (i : Int)) ∧ rd s.1 (rd s.2 (i : Int)) ≤ (s.2.length : Int) := by
    rcases h.val _ hc.1 hc.2.1 with v | v
    · omega
    · exact v
  have pa := ptr_ok ha ga h h1
  have pb := ptr_ok hb gb h h1
  have i1 := bm_inv h pa (far := rd s.1 (rd s.2 (i : Int)) + 1) (by omega) (by omega)
  have gq := g _ hc.1 hc.2.1 hc.2.2
  have g1 := bm_ball h g pa (fun e => hP _ _ _ hv.1 hc.1 hc.2.1 gq (Or.inl rfl) e)
  exact bm_ball i1 g1 pb (fun e => hP _ _ _ hv.1 hc.1 hc.2.1 gq (Or.inr rfl) e)
theorem bloop_ball {n : Nat} {P : Int → Int → Prop} {a b : List Int} (ha : a.length = n) (hb : b.length = n) (ga : ∀ x ∈ a, -1 ≤ x ∧ x < (n : Int)) (gb : ∀ x ∈ b, -1 ≤ x ∧ x < (n : Int)) (hP : ∀ (d x y : Int), 1 ≤ d → 0 ≤ x → x < (n : Int) → P d x → (rd a x = y ∨ rd b x = y) → y ≠ -1 → P (d + 1) y) : ∀ (m i : Nat) (s : List Int × List Int), Binv n s → Ball n P s → Ball n P (bloop a b m i s)
  | 0, _, _, _, g => g
  | m + 1, i, s, h, g => by
    rw [bloop]
    by_cases c : i < s.2.length
    · rw [if_pos c]
      exact bloop_ball ha hb ga gb hP m (i + 1) _ (bstep_inv ha hb ga gb h (by omega) (by omega)) (bstep_ball ha hb ga gb hP h g c)
    · rw [if_neg c]; exact g
theorem distM_ball {P : Int → Int → Prop} {a b c : List Int} (hb : b.length = a.length) (ga : ∀ x ∈ a, -1 ≤ x ∧ x < (a.length : Int)) (gb : ∀ x ∈ b, -1 ≤ x ∧ x < (a.length : Int)) (gc : ∀ x ∈ c, -1 ≤ x ∧ x < (a.length : Int)) (h1 : ∀ x ∈ c, x ≠ -1 → P 1 x) (hP : ∀ (d x y : Int), 1 ≤ d → 0 ≤ x → x < (a.length : Int) → P d x → (rd a x = y ∨ rd b x = y) → y ≠ -1 → P (d + 1) y) {x : Int} (x0 : 0 ≤ x) (x1 : x < (a.length : Int)) (x2 : 1 ≤ rd (distM a b c) x) : P (rd (distM a b c) x) x :=
  bloop_ball rfl hb ga gb hP _ _ _ (broots_inv c _ gc (bstart_inv _)) (broots_ball c _ gc h1 (bstart_inv _) (bstart_ball _ P)) x x0 x1 x2
/-- A cell with a distance has a way of that length. -/
theorem distM_way {a b c : List Int} (hb : b.length = a.length) (ga : ∀ x ∈ a, -1 ≤ x ∧ x < (a.length : Int)) (gb : ∀ x ∈ b, -1 ≤ x ∧ x < (a.length : Int)) (gc : ∀ x ∈ c, -1 ≤ x ∧ x < (a.length : Int)) {x : Int} (x0 : 0 ≤ x) (x1 : x < (a.length : Int)) (x2 : 1 ≤ rd (distM a b c) x) : way a b c (rd (distM a b c) x).toNat x := by
  refine distM_ball (P := fun d x => way a b c d.toNat x) hb ga gb gc (fun x hx e => way_start (by have := gc x hx; omega) hx) (fun d x y d1 y0 y1 w e e1 => ?_) x0 x1 x2
  have h0 : 0 ≤ y := by
    rcases e with e | e
    · have := ga _ (rd_mem a x y0 y1); omega
    · have := gb _ (rd_mem b x y0 (by omega)); omega
  have := way_next w h0 e
  rwa [show d.toNat + 1 = (d + 1).toNat from by omega] at this
/-- The cells met stand in the order of their distances, which differ by one at most behind place i. -/
structure Bord (a b : List Int) (i : Nat) (s : List Int × List Int) : Prop where
  up : ∀ j k : Nat, j ≤ k → k < s.2.length → rd s.1 (rd s.2 (j : Int)) ≤ rd s.1 (rd s.2 (k : Int))
  two : ∀ j k : Nat, i ≤ j → j < s.2.length → k < s.2.length → rd s.1 (rd s.2 (k : Int)) ≤ rd s.1 (rd s.2 (j : Int)) + 1
  ptr : ∀ j : Nat, j < i → (rd a (rd s.2 (j : Int)) = -1 ∨ rd s.1 (rd a (rd s.2 (j : Int))) ≤ rd s.1 (rd s.2 (j : Int)) + 1) ∧ (rd b (rd s.2 (j : Int)) = -1 ∨ rd s.1 (rd b (rd s.2 (j : Int))) ≤ rd s.1 (rd s.2 (j : Int)) + 1)
theorem bm_q {n : Nat} {s : List Int × List Int} (h : Binv n s) {p far : Int} (hp : p = -1 ∨ (0 ≤ p ∧ p < (n : Int))) {k : Nat} (hk : k < s.2.length) : rd (bm s p far).2 (k : Int) = rd s.2 (k : Int) ∧ rd (bm s p far).1 (rd (bm s p far).2 (k : Int)) = rd s.1 (rd s.2 (k : Int)) := by
  have e := bm_op s p far (k : Int) (by omega) (by omega)
  have hc := h.op _ (rd_mem s.2 (k : Int) (by omega) (by omega))
  exact ⟨e, by rw [e]; exact bm_keep h hp hc.1 hc.2.2⟩
theorem bm_new {n : Nat} {s : List Int × List Int} (h : Binv n s) {p far : Int} (hp : p = -1 ∨ (0 ≤ p ∧ p < (n : Int))) {k : Nat} (hk : k < (bm s p far).2.length) (hk2 : ¬ k < s.2.length) : rd (bm s p far).1 (rd (bm s p far).2 (k : Int)) = far := by
  unfold bm at hk ⊢
  by_cases c : p ≠ -1 ∧ rd s.1 p < 0
  · rw [if_pos c] at hk ⊢
    obtain ⟨p0, p1⟩ := hp.resolve_left c.1
    have hl := h.len
    have hk' : k < (s.2 ++ [p]).length := hk
    have e : k = s.2.length := by simp at hk'; omega
    show rd (s.1.set p.toNat far) (rd (s.2 ++ [p]) (k : Int)) = far
    have e2 : rd (s.2 ++ [p]) (k : Int) = p := by subst e; rw [rd_nat _ _ hk']; simp
    rw [e2, rd_set_eq _ _ _ p0 (by omega)]
  · rw [if_neg c] at hk; exact absurd hk hk2
/-- A step of the order: the met pointer's distance is far, and no one's is more. -/
theorem bm_ord {n : Nat} {s : List Int × List Int} (h : Binv n s) {p far : Int} (hp : p = -1 ∨ (0 ≤ p ∧ p < (n : Int))) (up : ∀ j k : Nat, j ≤ k → k < s.2.length → rd s.1 (rd s.2 (j : Int)) ≤ rd s.1 (rd s.2 (k : Int))) (hf : ∀ k : Nat, k < s.2.length → rd s.1 (rd s.2 (k : Int)) ≤ far) :
    (∀ j k : Nat, j ≤ k → k < (bm s p far).2.length → rd (bm s p far).1 (rd (bm s p far).2 (j : Int)) ≤ rd (bm s p far).1 (rd (bm s p far).2 (k : Int))) ∧ (∀ k : Nat, k < (bm s p far).2.length → rd (bm s p far).1 (rd (bm s p far).2 (k : Int)) ≤ far) := by
  have hle := bm_len s p far
  have h2 : ∀ k : Nat, k < (bm s p far).2.length → rd (bm s p far).1 (rd (bm s p far).2 (k : Int)) ≤ far := by
    intro k hk
    by_cases c : k < s.2.length
    · rw [(bm_q h hp c).2]; exact hf k c
    · rw [bm_new h hp hk c]; omega
  refine ⟨fun j k hjk hk => ?_, h2⟩
  by_cases c : k < s.2.length
  · rw [(bm_q h hp c).2, (bm_q h hp (by omega : j < s.2.length)).2]; exact up j k hjk c
  · rw [bm_new h hp hk c]; exact h2 j (by omega)
theorem met_le {n : Nat} {s : List Int × List Int} (h : Binv n s) (hm : ∀ x : Int, 0 ≤ x → x < (n : Int) → 1 ≤ rd s.1 x → x ∈ s.2) {m : Int} (hf : ∀ k : Nat, k < s.2.length → rd s.1 (rd s.2 (k : Int)) ≤ m) (h1 : 1 ≤ m) {p : Int} (hp : p = -1 ∨ (0 ≤ p ∧ p < (n : Int))) : p = -1 ∨ rd s.1 p ≤ m := by
  rcases hp with hp | ⟨p0, p1⟩
  · exact Or.inl hp
  · refine Or.inr ?_
    rcases h.val p p0 p1 with v | v
    · omega
    · obtain ⟨k, hk, e⟩ := List.getElem_of_mem (hm p p0 p1 v.1)
      have := hf k hk
      rwa [rd_nat _ k hk, e] at this
theorem bstep_ord {n : Nat} {a b : List Int} (ha : a.length = n) (hb : b.length = n) (ga : ∀ x ∈ a, -1 ≤ x ∧ x < (n : Int)) (gb : ∀ x ∈ b, -1 ≤ x ∧ x < (n : Int)) {s : List Int × List Int} (h : Binv n s) {i : Nat} (g : Bcl n a b i s) (o : Bord a b i s) (h1 : i < s.2.length) : Bord a b (i + 1) (bstep a b s (i : Int)) := by
  have hc := h.op _ (rd_mem s.2 (i : Int) (by omega) (by omega))
  have hv : 1 ≤ rd s.1 (rd s.2 (i : Int)) ∧ rd s.1 (rd s.2 (i : Int)) ≤ (s.2.length : Int) := by
    rcases h.val _ hc.1 hc.2.1 with v | v
    · omega
    · exact v
  have pa := ptr_ok ha ga h h1
  have pb := ptr_ok hb gb h h1
  have i1 := bm_inv h pa (far := rd s.1 (rd s.2 (i : Int)) + 1) (by omega) (by omega)
  have l1 := bm_len s (rd a (rd s.2 (i : Int))) (rd s.1 (rd s.2 (i : Int)) + 1)
  have i2 := bm_inv i1 pb (far := rd s.1 (rd s.2 (i : Int)) + 1) (by omega) (by omega)
  have o1 := bm_ord h pa o.up (fun k hk => o.two i k (by omega) h1 hk)
  have o2 := bm_ord i1 pb o1.1 o1.2
  have m1 := bm_mem h g.mem (far := rd s.1 (rd s.2 (i : Int)) + 1) pa
  have m2 := bm_mem i1 m1 (far := rd s.1 (rd s.2 (i : Int)) + 1) pb
  have q2 : ∀ k : Nat, k < s.2.length → rd (bstep a b s (i : Int)).2 (k : Int) = rd s.2 (k : Int) ∧ rd (bstep a b s (i : Int)).1 (rd (bstep a b s (i : Int)).2 (k : Int)) = rd s.1 (rd s.2 (k : Int)) := by
    intro k hk
    have e1 := bm_q h pa (far := rd s.1 (rd s.2 (i : Int)) + 1) hk
    have e2 := bm_q i1 pb (far := rd s.1 (rd s.2 (i : Int)) + 1) (by omega : k < (bm s (rd a (rd s.2 (i : Int))) (rd s.1 (rd s.2 (i : Int)) + 1)).2.length)
    exact ⟨e2.1.trans e1.1, e2.2.trans e1.2⟩
  have le2 := bstep_len a b s (i : Int)
  have f2 : ∀ k : Nat, k < (bstep a b s (i : Int)).2.length → rd (bstep a b s (i : Int)).1 (rd (bstep a b s (i : Int)).2 (k : Int)) ≤ rd s.1 (rd s.2 (i : Int)) + 1 := o2.2
  have u2 : ∀ j k : Nat, j ≤ k → k < (bstep a b s (i : Int)).2.length → rd (bstep a b s (i : Int)).1 (rd (bstep a b s (i : Int)).2 (j : Int)) ≤ rd (bstep a b s (i : Int)).1 (rd (bstep a b s (i : Int)).2 (k : Int)) := o2.1
  refine ⟨u2, fun j k hj hj2 hk => ?_, fun j hj => ?_⟩
  · have := f2 k hk
    have := u2 i j (by omega) hj2
    rw [(q2 i h1).2] at this
    omega
  · by_cases e : j = i
    · subst e
      rw [(q2 j h1).1]
      have e3 := (q2 j h1).2
      rw [(q2 j h1).1] at e3
      rw [e3]
      exact ⟨met_le i2 m2 f2 (by omega) pa, met_le i2 m2 f2 (by omega) pb⟩
    · have hj' : j < s.2.length := by have := g.le; omega
      have e3 := (q2 j hj').2
      rw [(q2 j hj').1] at e3
      rw [(q2 j hj').1, e3]
      have gp := g.ptr j (by omega)
      have op := o.ptr j (by omega)
      have qa := ptr_ok ha ga h hj'
      have qb := ptr_ok hb gb h hj'
      have keep : ∀ x : Int, 0 ≤ x → 1 ≤ rd s.1 x → rd (bstep a b s (i : Int)).1 x = rd s.1 x := by
        intro x x0 x1
        have k1 := bm_keep h pa (far := rd s.1 (rd s.2 (i : Int)) + 1) x0 x1
        exact (bm_keep i1 pb (far := rd s.1 (rd s.2 (i : Int)) + 1) x0 (by omega)).trans k1
      refine ⟨?_, ?_⟩
      · by_cases c : rd a (rd s.2 (j : Int)) = -1
        · exact Or.inl c
        · rw [keep _ (qa.resolve_left c).1 (gp.1.resolve_left c)]; exact op.1
      · by_cases c : rd b (rd s.2 (j : Int)) = -1
        · exact Or.inl c
        · rw [keep _ (qb.resolve_left c).1 (gp.2.resolve_left c)]; exact op.2
theorem bloop_ord {n : Nat} {a b : List Int} (ha : a.length = n) (hb : b.length = n) (ga : ∀ x ∈ a, -1 ≤ x ∧ x < (n : Int)) (gb : ∀ x ∈ b, -1 ≤ x ∧ x < (n : Int)) : ∀ (m i : Nat) (s : List Int × List Int), Binv n s → Bcl n a b i s → Bord a b i s → n < m + i → Bord a b (bloop a b m i s).2.length (bloop a b m i s)
  | 0, i, s, h, g, o, hm => by
    have := h.le
    have := g.le
    rw [bloop]; omega
  | m + 1, i, s, h, g, o, hm => by
    rw [bloop]
    by_cases c : i < s.2.length
    · rw [if_pos c]
      exact bloop_ord ha hb ga gb m (i + 1) _ (bstep_inv ha hb ga gb h (by omega) (by omega)) (bstep_cl ha hb ga gb h g c) (bstep_ord ha hb ga gb h g o c) (by omega)
    · rw [if_neg c]
      have e : i = s.2.length := by have := g.le; omega
      rw [← e]; exact o
/-- Starts are met at distance one. -/
theorem broots_val {n : Nat} (c : List Int) (hc : ∀ x ∈ c, -1 ≤ x ∧ x < (n : Int)) {x : Int} (h0 : 0 ≤ x) (h1 : x < (n : Int)) (h2 : 1 ≤ rd (broots c (bstart n)).1 x) : rd (broots c (bstart n)).1 x = 1 :=
  broots_ball (P := fun d _ => d = 1) c _ hc (fun _ _ _ => rfl) (bstart_inv n) (bstart_ball n _) x h0 h1 h2
theorem broots_ord {n : Nat} (a b c : List Int) (hc : ∀ x ∈ c, -1 ≤ x ∧ x < (n : Int)) : Bord a b 0 (broots c (bstart n)) := by
  have h := broots_inv c _ hc (bstart_inv n)
  have v : ∀ k : Nat, k < (broots c (bstart n)).2.length → rd (broots c (bstart n)).1 (rd (broots c (bstart n)).2 (k : Int)) = 1 := by
    intro k hk
    have ho := h.op _ (rd_mem _ (k : Int) (by omega) (by omega))
    exact broots_val c hc ho.1 ho.2.1 ho.2.2
  exact ⟨fun j k hjk hk => by rw [v k hk, v j (by omega)]; omega, fun j k _ hj hk => by rw [v k hk, v j hj]; omega, fun j hj => by omega⟩
/-- What a reached cell points to is no farther than one more. -/
theorem distM_next {a b c : List Int} (hb : b.length = a.length) (ga : ∀ x ∈ a, -1 ≤ x ∧ x < (a.length : Int)) (gb : ∀ x ∈ b, -1 ≤ x ∧ x < (a.length : Int)) (gc : ∀ x ∈ c, -1 ≤ x ∧ x < (a.length : Int)) {x y : Int} (h0 : 0 ≤ x) (h1 : x < (a.length : Int)) (h2 : 1 ≤ rd (distM a b c) x) (e : rd a x = y ∨ rd b x = y) (hy : y ≠ -1) : 1 ≤ rd (distM a b c) y ∧ rd (distM a b c) y ≤ rd (distM a b c) x + 1 := by
  have i0 := broots_inv c _ gc (bstart_inv a.length)
  have c0 := broots_cl (a := a) (b := b) c _ gc (bstart_inv a.length) (bstart_cl a.length a b)
  have g := bloop_cl rfl hb ga gb (a.length + 1) 0 _ i0 c0 (by omega)
  have o := bloop_ord rfl hb ga gb (a.length + 1) 0 _ i0 c0 (broots_ord a b c gc) (by omega)
  have hm := g.mem x h0 h1 h2
  obtain ⟨j, hj, ej⟩ := List.getElem_of_mem hm
  have p1 := g.ptr j hj
  have p2 := o.ptr j hj
  rw [rd_nat _ j hj, ej] at p1 p2
  rcases e with e | e
  · rw [e] at p1 p2
    exact ⟨p1.1.resolve_left hy, p2.1.resolve_left hy⟩
  · rw [e] at p1 p2
    exact ⟨p1.2.resolve_left hy, p2.2.resolve_left hy⟩
theorem distM_one {a b c : List Int} (hb : b.length = a.length) (ga : ∀ x ∈ a, -1 ≤ x ∧ x < (a.length : Int)) (gb : ∀ x ∈ b, -1 ≤ x ∧ x < (a.length : Int)) (gc : ∀ x ∈ c, -1 ≤ x ∧ x < (a.length : Int)) {p : Int} (hp : p ∈ c) (h0 : 0 ≤ p) : rd (distM a b c) p = 1 := by
  have i0 := broots_inv c _ gc (bstart_inv a.length)
  have r := (broots_one c _ gc (bstart_inv a.length) p hp).resolve_left (by omega)
  have v := broots_val c gc h0 (gc p hp).2 r
  have k := bloop_keep rfl hb ga gb (a.length + 1) 0 _ i0 h0 r
  exact k.trans v
/-- A way's cell has a distance, and none longer than the way. -/
theorem way_distM {a b c : List Int} (hb : b.length = a.length) (ga : ∀ x ∈ a, -1 ≤ x ∧ x < (a.length : Int)) (gb : ∀ x ∈ b, -1 ≤ x ∧ x < (a.length : Int)) (gc : ∀ x ∈ c, -1 ≤ x ∧ x < (a.length : Int)) : ∀ (d : Nat) (x : Int), way a b c d x → 1 ≤ rd (distM a b c) x ∧ rd (distM a b c) x ≤ (d : Int)
  | 0, _, h => absurd h (fun h => h)
  | d + 1, y, h => by
    rcases h.2 with ⟨e, hy⟩ | ⟨x, hx, e⟩
    · rw [distM_one hb ga gb gc hy h.1]; omega
    · have ih := way_distM hb ga gb gc d x hx
      have h1 := way_lt rfl hb ga gb gc d x hx
      have := distM_next hb ga gb gc (way_nonneg hx) h1 ih.1 e (by have := h.1; omega)
      omega
/-- For each cell whether a root leads to it. -/
def reachM (a b c : List Int) : List Bool := if hv a b c = true then (distM a b c).map (fun x => decide (x > 0)) else []
theorem rdb_nat (l : List Bool) (n : Nat) (h : n < l.length) : rdOf false l (n : Int) = l[n] := by
  unfold rdOf; simp [h]
theorem reach_rd {a b c : List Int} (h : hv a b c = true) {x : Int} (h0 : 0 ≤ x) (h1 : x < (a.length : Int)) : rdOf false (reachM a b c) x = decide (rd (distM a b c) x > 0) := by
  have hl := hv_len h
  have hdl := distM_len (by omega) (hv_a h) (hv_b h) (hv_c h)
  obtain ⟨n, rfl⟩ : ∃ n : Nat, x = (n : Int) := ⟨x.toNat, by omega⟩
  rw [rdb_nat _ n (by unfold reachM; rw [if_pos h, List.length_map]; omega), rd_nat _ n (by omega)]
  unfold reachM
  simp [h]
theorem reachM_len_eq {a b c : List Int} (h : hv a b c = true) : (reachM a b c).length = a.length := by
  have hl := hv_len h
  unfold reachM
  rw [if_pos h, List.length_map, distM_len (by omega) (hv_a h) (hv_b h) (hv_c h)]
theorem reach_iff {a b c : List Int} (h : hv a b c = true) {x : Int} (h0 : 0 ≤ x) (h1 : x < (a.length : Int)) : rdOf false (reachM a b c) x = true ↔ 1 ≤ rd (distM a b c) x := by
  rw [reach_rd h h0 h1, decide_eq_true_iff]; omega
theorem ha_hv {a b c : List Int} (h : hv a b c = true) : b.length = a.length := (hv_len h).1.symm
/-- A reached cell is one with a way. -/
theorem reach_way {a b c : List Int} (h : hv a b c = true) {x : Int} (h0 : 0 ≤ x) (h1 : x < (a.length : Int)) : rdOf false (reachM a b c) x = true ↔ ∃ d, way a b c d x := by
  rw [reach_iff h h0 h1]
  exact ⟨fun g => ⟨_, distM_way (ha_hv h) (hv_a h) (hv_b h) (hv_c h) h0 h1 g⟩, fun ⟨d, g⟩ => (way_distM (ha_hv h) (hv_a h) (hv_b h) (hv_c h) d x g).1⟩
theorem nblk_pos : ∀ (l : List Int) (j : Nat), j < l.length → l.getD j 0 ≠ 2 → 1 ≤ nblk l
  | [], j, h, _ => absurd h (by simp)
  | x :: l, 0, h, g => by
    have g' : x ≠ 2 := g
    rw [nblk, if_neg g']; omega
  | x :: l, j + 1, h, g => by
    have := nblk_pos l j (by simpa using h) g
    rw [nblk]; omega
theorem markN_inv {a b c : List Int} (I : List Int → Prop) (hI : ∀ (e : List Int) (i : Nat), cv a b c e = true → i < e.length → rd e (i : Int) = 1 → I e → I (blk a b e i)) : ∀ (n : Nat) (e : List Int), nblk e ≤ n → cv a b c e = true → I e → cv a b c (markN a b n e) = true ∧ I (markN a b n e) ∧ firstFrom (markN a b n e) 1 0 = none
  | 0, e, hn, h, g => by
    refine ⟨h, g, ?_⟩
    cases hf : firstFrom e 1 0 with
    | none => exact hf
    | some i =>
      obtain ⟨_, h2, h3, _⟩ := firstFrom_some e 1 _ 0 rfl i hf
      have := nblk_pos e i h2 (by unfold rd at h3; rw [Int.toNat_natCast] at h3; omega)
      omega
  | n + 1, e, hn, h, g => by
    rw [markN]
    cases hf : firstFrom e 1 0 with
    | none => exact ⟨h, g, hf⟩
    | some i =>
      obtain ⟨_, h2, h3, _⟩ := firstFrom_some e 1 _ 0 rfl i hf
      have := nblk_blk h h2 h3
      exact markN_inv I hI n (blk a b e i) (by omega) (cv_blk h i) (hI e i h h2 h3 g)
/-- What marking keeps: what is marked is live, roots are marked, and so is what a black cell points to. -/
structure Mk (a b c e : List Int) : Prop where
  live : ∀ q : Int, 0 ≤ q → q < (a.length : Int) → 1 ≤ rd e q → ∃ d, way a b c d q
  root : ∀ p ∈ c, p ≠ -1 → 1 ≤ rd e p
  black : ∀ q : Int, 0 ≤ q → q < (a.length : Int) → rd e q = 2 → (rd a q = -1 ∨ 1 ≤ rd e (rd a q)) ∧ (rd b q = -1 ∨ 1 ≤ rd e (rd b q))
theorem blk_up {a b c e : List Int} (h : cv a b c e = true) {i : Nat} (hi : i < e.length) {q : Int} (h0 : 0 ≤ q) (h1 : 1 ≤ rd e q) : 1 ≤ rd (blk a b e i) q := by
  rw [blk_rd h hi h0]
  by_cases g : q = (i : Int)
  · rw [if_pos g]; omega
  · rw [if_neg g, if_neg (fun k => by have := k.2; omega)]; exact h1
theorem mk_blk {a b c e : List Int} {i : Nat} (h : cv a b c e = true) (hi : i < e.length) (hg : rd e (i : Int) = 1) (m : Mk a b c e) : Mk a b c (blk a b e i) := by
  have hl := cv_lens h
  have hcol := (cv_iff.1 h).2.1
  obtain ⟨pa, pb⟩ := cv_ptr h i hi
  have shaded : ∀ y : Int, 0 ≤ y → y < (e.length : Int) → (y = rd a (i : Int) ∨ y = rd b (i : Int)) → 1 ≤ rd (blk a b e i) y := by
    intro y y0 y1 hy
    rw [blk_rd h hi y0]
    by_cases g : y = (i : Int)
    · rw [if_pos g]; omega
    · rw [if_neg g]
      have := rd_col hcol y0 y1
      by_cases z : rd e y = 0
      · rw [if_pos ⟨hy, z⟩]; omega
      · rw [if_neg (fun k => z k.2)]; omega
  refine ⟨fun q q0 q1 q2 => ?_, fun p hp hne => ?_, fun q q0 q1 q2 => ?_⟩
  · rw [blk_rd h hi q0] at q2
    have li := m.live (i : Int) (by omega) (by omega) (by omega)
    by_cases g : q = (i : Int)
    · rw [g]; exact li
    · rw [if_neg g] at q2
      by_cases z : (q = rd a (i : Int) ∨ q = rd b (i : Int)) ∧ rd e q = 0
      · obtain ⟨d, w⟩ := li
        exact ⟨d + 1, way_next w q0 (z.1.elim (fun k => Or.inl k.symm) (fun k => Or.inr k.symm))⟩
      · rw [if_neg z] at q2; exact m.live q q0 q1 q2
  · have := (hv_iff.1 (cv_iff.1 h).1).2.2.2 p hp
    exact blk_up h hi (by omega) (m.root p hp hne)
  · rw [blk_rd h hi q0] at q2
    by_cases g : q = (i : Int)
    · rw [g]
      refine ⟨?_, ?_⟩
      · by_cases k : rd a (i : Int) = -1
        · exact Or.inl k
        · exact Or.inr (shaded _ (by omega) (by omega) (Or.inl rfl))
      · by_cases k : rd b (i : Int) = -1
        · exact Or.inl k
        · exact Or.inr (shaded _ (by omega) (by omega) (Or.inr rfl))
    · rw [if_neg g] at q2
      by_cases z : (q = rd a (i : Int) ∨ q = rd b (i : Int)) ∧ rd e q = 0
      · rw [if_pos z] at q2; omega
      · rw [if_neg z] at q2
        obtain ⟨n, rfl⟩ : ∃ n : Nat, q = (n : Int) := ⟨q.toNat, by omega⟩
        obtain ⟨qa, qb⟩ := cv_ptr h n (by omega)
        obtain ⟨ba, bb⟩ := m.black (n : Int) q0 q1 q2
        refine ⟨?_, ?_⟩
        · by_cases k : rd a (n : Int) = -1
          · exact Or.inl k
          · exact Or.inr (blk_up h hi (by omega) (ba.resolve_left k))
        · by_cases k : rd b (n : Int) = -1
          · exact Or.inl k
          · exact Or.inr (blk_up h hi (by omega) (bb.resolve_left k))
/-- Where no cell is gray, what is live is black. -/
theorem mk_end {a b c e : List Int} (h : cv a b c e = true) (m : Mk a b c e) (hf : firstFrom e 1 0 = none) : ∀ (d : Nat) (q : Int), way a b c d q → rd e q = 2 := by
  have hl := cv_lens h
  have hh := (cv_iff.1 h).1
  have hcol := (cv_iff.1 h).2.1
  have two : ∀ y : Int, 0 ≤ y → y < (e.length : Int) → 1 ≤ rd e y → rd e y = 2 := by
    intro y y0 y1 y2
    have := rd_col hcol y0 y1
    have := firstFrom_none e 1 _ 0 rfl hf y.toNat (by omega) (by omega)
    rw [show ((y.toNat : Nat) : Int) = y from by omega] at this
    omega
  intro d
  induction d with
  | zero => intro q w; exact absurd w (fun h => h)
  | succ d ih =>
    intro q w
    have q1 := way_lt rfl (ha_hv hh) (hv_a hh) (hv_b hh) (hv_c hh) (d + 1) q w
    have q0 := way_nonneg w
    refine two q q0 (by omega) ?_
    rcases w.2 with ⟨_, hq⟩ | ⟨x, hx, ed⟩
    · exact m.root q hq (by omega)
    · have x0 := way_nonneg hx
      have x1 := way_lt rfl (ha_hv hh) (hv_a hh) (hv_b hh) (hv_c hh) d x hx
      obtain ⟨ba, bb⟩ := m.black x x0 x1 (ih x hx)
      rcases ed with ed | ed
      · rw [ed] at ba; exact ba.resolve_left (by omega)
      · rw [ed] at bb; exact bb.resolve_left (by omega)
theorem rd_zeros (n : Nat) (q : Int) : rd (List.replicate n 0) q = 0 := by
  unfold rd; rw [List.getD_eq_getElem?_getD, List.getElem?_replicate]; split <;> rfl
theorem mk_start {a b c : List Int} (h : hv a b c = true) : Mk a b c (shAll c (List.replicate a.length 0)) := by
  have hl := hv_len h
  have r : ∀ q : Int, 0 ≤ q → rd (shAll c (List.replicate a.length 0)) q = if q ∈ c then 1 else 0 := by
    intro q q0
    rw [shAll_rd (n := a.length) c _ (by simp) (hv_c h) q0, rd_zeros]
    by_cases g : q ∈ c
    · rw [if_pos ⟨g, rfl⟩, if_pos g]
    · rw [if_neg (fun k => g k.1), if_neg g]
  refine ⟨fun q q0 _ q2 => ?_, fun p hp hne => ?_, fun q q0 _ q2 => ?_⟩
  · rw [r q q0] at q2
    by_cases g : q ∈ c
    · exact ⟨1, way_start q0 g⟩
    · rw [if_neg g] at q2; omega
  · have := hv_c h p hp
    rw [r p (by omega), if_pos hp]; omega
  · rw [r q q0] at q2
    split at q2 <;> omega
def ncM (a b c : List Int) : List Int × List Int × List Int × List Int × Bool := if hv a b c = true then (a, b, c, List.replicate a.length 0, true) else ([], [], [], [], false)
theorem ncM_lens (a b c : List Int) : (ncM a b c).1.length ≤ 8 ∧ (ncM a b c).2.1.length ≤ 8 ∧ (ncM a b c).2.2.1.length ≤ 3 ∧ (ncM a b c).2.2.2.1.length ≤ 8 := by
  unfold ncM
  by_cases h : hv a b c = true
  · have := hv_len h
    rw [if_pos h]; simp; omega
  · rw [if_neg h]; simp
theorem implNC_tells (a b c : List Int) (k : Nat) (hk : 60 ≤ k) : impl_NewColored.f k a b c = some (ncM a b c) := by
  unfold impl_NewColored.f ncM
  rw [implHV_tells a b c k (by omega)]
  simp only [Option.bind_some]
  by_cases h : hv a b c = true
  · have hl := hv_len h
    rw [if_pos h, if_pos h, copied_tells a b c (by omega) (by omega) (by omega)]
    simp only [Option.bind_some]
    rw [if_pos (by omega), Int.toNat_natCast, if_pos (by omega)]
  · rw [if_neg h, if_neg h]
theorem ncM_pos {a b c : List Int} (h : hv a b c = true) : ncM a b c = (a, b, c, List.replicate a.length 0, true) := by unfold ncM; rw [if_pos h]
theorem ncM_neg {a b c : List Int} (h : ¬ hv a b c = true) : ncM a b c = ([], [], [], [], false) := by unfold ncM; rw [if_neg h]
theorem cv_zeros {a b c : List Int} (h : hv a b c = true) : cv a b c (List.replicate a.length 0) = true :=
  cv_iff.2 ⟨h, fun w hw => by rw [(List.mem_replicate.1 hw).2]; omega, by simp⟩
theorem specNC_tells (a b c : List Int) (k : Nat) (hk : 60 ≤ k) : spec_NewColored.f k a b c = some (ncM a b c) := by
  unfold spec_NewColored.f ncM
  rw [specHV_tells a b c k (by omega)]
  simp only [Option.bind_some]
  by_cases h : hv a b c = true
  · have hl := hv_len h
    rw [if_pos h, if_pos h, l1Copy_tells a b c (by omega) (by omega) (by omega)]
    simp only [Option.bind_some]
    rw [if_pos (by omega), Int.toNat_natCast, if_pos (by omega)]
  · rw [if_neg h, if_neg h]
/-- The distances where 0 says that there is none. -/
def zd (l : List Int) : List Int := l.map (fun x => if x < 0 then 0 else x)
theorem zd_len (l : List Int) : (zd l).length = l.length := by unfold zd; simp
theorem zd_rd (l : List Int) (x : Int) (h0 : 0 ≤ x) (h : x < (l.length : Int)) : rd (zd l) x = if rd l x < 0 then 0 else rd l x := by
  obtain ⟨n, rfl⟩ : ∃ n : Nat, x = (n : Int) := ⟨x.toNat, by omega⟩
  rw [rd_nat _ n (by rw [zd_len]; omega), rd_nat l n (by omega)]; unfold zd; simp
theorem zd_rep (n : Nat) : zd (List.replicate n (-1)) = List.replicate n 0 := by unfold zd; simp
theorem meetOut_bm {n : Nat} {s : List Int × List Int} (h : Binv n s) {p far : Int} (hp : p = -1 ∨ (0 ≤ p ∧ p < (n : Int))) (h1 : 1 ≤ far) : meetOut (zd s.1) p far = zd (bm s p far).1 ∧ meetOpen (zd s.1) s.2 p = (bm s p far).2 := by
  unfold meetOut meetOpen bm
  by_cases c1 : p = -1
  · rw [if_neg (by simp [c1]), if_neg (by simp [c1]), if_neg (by simp [c1])]; exact ⟨rfl, rfl⟩
  · obtain ⟨hp0, hp1⟩ := hp.resolve_left c1
    have hl := h.len
    have hz := zd_rd s.1 p hp0 (by omega)
    by_cases c2 : rd s.1 p < 0
    · rw [if_pos c2] at hz
      rw [if_pos (show p ≠ -1 ∧ rd (zd s.1) p = 0 from ⟨c1, hz⟩), if_pos (show p ≠ -1 ∧ rd (zd s.1) p = 0 from ⟨c1, hz⟩), if_pos (show p ≠ -1 ∧ rd s.1 p < 0 from ⟨c1, c2⟩)]
      refine ⟨?_, rfl⟩
      unfold zd
      rw [List.map_set, if_neg (by omega)]
    · rw [if_neg c2] at hz
      have hv := h.val p hp0 hp1
      have hn : ¬ (p ≠ -1 ∧ rd (zd s.1) p = 0) := by rw [hz]; intro hh; omega
      rw [if_neg hn, if_neg hn, if_neg (show ¬ (p ≠ -1 ∧ rd s.1 p < 0) from fun hh => c2 hh.2)]; exact ⟨rfl, rfl⟩
theorem meetOk_iff {n : Nat} {p : Int} (h : p = -1 ∨ (0 ≤ p ∧ p < (n : Int))) : meetOk n p = true := by unfold meetOk; exact decide_eq_true h
theorem implD_l0 (n : Nat) (hn : n ≤ 8) (a b r : List Int) (gr : ∀ x ∈ r, -1 ≤ x ∧ x < (n : Int)) (hr : r.length ≤ 1000) : ∀ (d i k : Nat) (s : List Int × List Int), Binv n s → i ≤ r.length → r.length - i = d →
    impl_distances.l0 (k + d + 1) (i : Int) (zd s.1) s.2 a b r = impl_distances.l1 k 0 (zd (broots (r.drop i) s).1) (broots (r.drop i) s).2 a b r := by
  intro d
  induction d with
  | zero =>
    intro i k s h hi hd
    rw [impl_distances.l0, if_neg (by omega), List.drop_eq_nil_of_le (by omega)]
    rfl
  | succ d ih =>
    intro i k s h hi hd
    have hlt : i < r.length := by omega
    have hp := okp_ptr gr (i := (i : Int)) (by omega) (by omega)
    have hl := h.len
    have hle := h.le
    have hm := meetOut_bm h hp (far := 1) (by omega)
    rw [show k + (d + 1) + 1 = (k + d + 1) + 1 from by omega, impl_distances.l0, if_pos (by omega), if_pos (by omega), if_pos (by rw [zd_len, hl]; exact meetOk_iff hp), if_pos (by omega), drop_rd r i hlt, wrap_succ hlt (by omega), hm.1, hm.2]
    exact ih (i + 1) k (bm s (rd r (i : Int)) 1) (bm_inv h hp (by omega) (by omega)) (by omega) (by omega)
theorem implD_l1 (n : Nat) (hn : n ≤ 8) (a b r : List Int) (ha : a.length = n) (hb : b.length = n) (ga : ∀ x ∈ a, -1 ≤ x ∧ x < (n : Int)) (gb : ∀ x ∈ b, -1 ≤ x ∧ x < (n : Int)) : ∀ (d i k : Nat) (s : List Int × List Int), Binv n s → i ≤ s.2.length → n - i = d → d < k →
    impl_distances.l1 k (i : Int) (zd s.1) s.2 a b r = some (zd (bloop a b (d + 1) i s).1) := by
  intro d
  induction d with
  | zero =>
    intro i k s h hi hd hk
    obtain ⟨k, rfl⟩ : ∃ m, k = m + 1 := ⟨k - 1, by omega⟩
    have hle := h.le
    rw [impl_distances.l1, if_neg (by omega), bloop, if_neg (by omega)]
  | succ d ih =>
    intro i k s h hi hd hk
    have hle := h.le
    have hl := h.len
    obtain ⟨k, rfl⟩ : ∃ m, k = m + 1 := ⟨k - 1, by omega⟩
    rw [bloop]
    by_cases c0 : i < s.2.length
    · have hc := h.op _ (rd_mem s.2 (i : Int) (by omega) (by omega))
      have hv : 1 ≤ rd s.1 (rd s.2 (i : Int)) ∧ rd s.1 (rd s.2 (i : Int)) ≤ (s.2.length : Int) := by
        rcases h.val _ hc.1 hc.2.1 with v | v
        · omega
        · exact v
      have hpa := okp_ptr ga hc.1 (by omega)
      have hpb := okp_ptr gb hc.1 (by omega)
      have i1 := bm_inv h (p := rd a (rd s.2 (i : Int))) (far := rd s.1 (rd s.2 (i : Int)) + 1) hpa (by omega) (by omega)
      have k1 := bm_keep h (p := rd a (rd s.2 (i : Int))) (far := rd s.1 (rd s.2 (i : Int)) + 1) hpa hc.1 (by omega)
      have l1 := bm_len s (rd a (rd s.2 (i : Int))) (rd s.1 (rd s.2 (i : Int)) + 1)
      have hw : wrap64 (rd s.1 (rd s.2 (i : Int)) + 1) = rd s.1 (rd s.2 (i : Int)) + 1 := wrap_id (by omega) (by omega)
      have hm1 := meetOut_bm h hpa (far := rd s.1 (rd s.2 (i : Int)) + 1) (by omega)
      have z0 : rd (zd s.1) (rd s.2 (i : Int)) = rd s.1 (rd s.2 (i : Int)) := by rw [zd_rd _ _ hc.1 (by omega), if_neg (by omega)]
      rw [if_pos c0, ← ih (i + 1) k (bstep a b s (i : Int)) (bstep_inv ha hb ga gb h (by omega) (by omega)) (by have := bstep_len a b s (i : Int); omega) (by omega) (by omega)]
      rw [impl_distances.l1, if_pos (by omega), if_pos (by omega), if_pos hc.1, if_pos (by omega), if_pos (by omega), if_pos (by rw [zd_len]; omega), zd_len, hl, if_pos (meetOk_iff hpa), if_pos (meetOk_iff hpb), if_pos (by omega), z0, hw, hm1.1, hm1.2]
      unfold bstep
      generalize bm s (rd a (rd s.2 (i : Int))) (rd s.1 (rd s.2 (i : Int)) + 1) = s1 at i1 k1 l1 ⊢
      have hm2 := meetOut_bm i1 hpb (far := rd s.1 (rd s.2 (i : Int)) + 1) (by omega)
      have l1n := i1.len
      have z1 : rd (zd s1.1) (rd s.2 (i : Int)) = rd s.1 (rd s.2 (i : Int)) := by rw [zd_rd _ _ hc.1 (by omega), k1, if_neg (by omega)]
      rw [z1, hw, hm2.1, hm2.2, wrap_succ c0 (by omega)]
    · rw [if_neg c0, impl_distances.l1, if_neg (by omega)]
theorem implD_tells (a b r : List Int) (ha : a.length ≤ 8) (hb : b.length = a.length) (ga : ∀ x ∈ a, -1 ≤ x ∧ x < (a.length : Int)) (gb : ∀ x ∈ b, -1 ≤ x ∧ x < (a.length : Int)) (gr : ∀ x ∈ r, -1 ≤ x ∧ x < (a.length : Int)) (hr : r.length ≤ 1000) :
    impl_distances.f a b r = some (zd (distM a b r)) := by
  unfold impl_distances.f
  rw [if_pos ⟨ha, hr⟩]
  obtain ⟨k, hk⟩ : ∃ m, 2000 = m + r.length + 1 := ⟨2000 - r.length - 1, by omega⟩
  rw [hk, ← zd_rep]
  have h0 := implD_l0 a.length ha a b r gr hr r.length 0 k (bstart a.length) (bstart_inv _) (by omega) (by omega)
  rw [List.drop_zero] at h0
  refine Eq.trans h0 ?_
  exact implD_l1 a.length ha a b r rfl hb ga gb a.length 0 k (broots r (bstart a.length)) (broots_inv r _ gr (bstart_inv _)) (by omega) (by omega) (by omega)
theorem implRE_l0 (l : List Int) (hl : l.length ≤ 1000) : ∀ (d i k : Nat) (o : List Bool), i ≤ l.length → l.length - i = d → d < k → o.length ≤ i →
    impl_Reachable.l0 k o l (l.length : Int) (i : Int) = some (o ++ (l.drop i).map (fun x => decide (x > 0))) := by
  intro d
  induction d with
  | zero =>
    intro i k o hi hd hk ho
    obtain ⟨k, rfl⟩ : ∃ m, k = m + 1 := ⟨k - 1, by omega⟩
    rw [impl_Reachable.l0, if_neg (by omega), List.drop_eq_nil_of_le (by omega), List.map_nil, List.append_nil]
  | succ d ih =>
    intro i k o hi hd hk ho
    obtain ⟨k, rfl⟩ : ∃ m, k = m + 1 := ⟨k - 1, by omega⟩
    have hlt : i < l.length := by omega
    rw [impl_Reachable.l0, if_pos (by omega), if_pos (by omega), if_pos (by omega), if_pos (by omega), drop_rd l i hlt, wrap_succ hlt (by omega), ih (i + 1) k _ (by omega) (by omega) (by omega) (by simp; omega), List.map_cons, List.append_assoc]
    rfl
theorem zd_pos (l : List Int) : (zd l).map (fun x => decide (x > 0)) = l.map (fun x => decide (x > 0)) := by
  unfold zd
  rw [List.map_map]
  apply List.map_congr_left
  intro x _
  show decide ((if x < 0 then (0 : Int) else x) > 0) = decide (x > 0)
  by_cases h : x < 0
  · rw [if_pos h, decide_eq_false (by omega), decide_eq_false (by omega)]
  · rw [if_neg h]
theorem implRE_tells (a b c : List Int) (k : Nat) (hk : 60 ≤ k) : impl_Reachable.f k a b c = some (reachM a b c) := by
  unfold impl_Reachable.f reachM
  rw [implHV_tells a b c k (by omega)]
  simp only [Option.bind_some]
  by_cases h : hv a b c = true
  · have hl := hv_len h
    have hdl := distM_len (by omega) (hv_a h) (hv_b h) (hv_c h)
    rw [if_pos h, if_pos h, implD_tells a b _ (by omega) (by omega) (hv_a h) (hv_b h) (hv_c h) (by omega)]
    simp only [Option.bind_some]
    refine Eq.trans (implRE_l0 (zd (distM a b c)) (by rw [zd_len]; omega) (zd (distM a b c)).length 0 k [] (by omega) (by omega) (by rw [zd_len]; omega) (by simp)) ?_
    rw [List.drop_zero, List.nil_append, zd_pos]
  · rw [if_neg h, if_neg h]
theorem Equal_l0 (a b : List Int) (he : a.length = b.length) (hl : a.length ≤ 9223372036854775807) : ∀ (d n k : Nat), n ≤ a.length → a.length - n = d → d < k →
    slices_Equal_int_int.l0 k a b (a.length : Int) (n : Int) = some (decide (a.drop n = b.drop n)) := by
  intro d
  induction d with
  | zero =>
    intro n k hn hd hk
    obtain ⟨k, rfl⟩ : ∃ m, k = m + 1 := ⟨k - 1, by omega⟩
    rw [slices_Equal_int_int.l0, if_neg (by omega), List.drop_eq_nil_of_le (by omega), List.drop_eq_nil_of_le (by omega)]
    simp
  | succ d ih =>
    intro n k hn hd hk
    obtain ⟨k, rfl⟩ : ∃ m, k = m + 1 := ⟨k - 1, by omega⟩
    have hlt : n < a.length := by omega
    have hlt2 : n < b.length := by omega
    rw [slices_Equal_int_int.l0, if_pos (by omega), if_pos (by omega), if_pos (by omega), if_pos (by omega), drop_rd a n hlt, drop_rd b n hlt2]
    by_cases h : rd a (n : Int) = rd b (n : Int)
    · rw [if_pos h, wrap_succ hlt hl, ih (n + 1) k (by omega) (by omega) (by omega), h]
      simp
    · rw [if_neg h]
      simp [h]
theorem Equal_tells (a b : List Int) (k : Nat) (hl : a.length ≤ 9223372036854775807) (hk : a.length < k) : slices_Equal_int_int.f k a b = some (decide (a = b)) := by
  unfold slices_Equal_int_int.f
  by_cases h : a.length = b.length
  · rw [if_pos (by omega)]
    refine Eq.trans (Equal_l0 a b h hl a.length 0 k (by omega) (by omega) hk) ?_
    simp
  · rw [if_neg (by omega)]
    have : a ≠ b := fun e => h (by rw [e])
    simp [this]
theorem implHeapSame_tells (a b c a' b' c' : List Int) (k : Nat) (ha : a.length ≤ 1048576) (hb : b.length ≤ 1048576) (hc : c.length ≤ 1048576) (hk : 1048577 ≤ k) :
    impl_HeapSame.f k a b c a' b' c' = some (decide (a = a' ∧ b = b' ∧ c = c')) := by
  unfold impl_HeapSame.f
  rw [Equal_tells a a' k (by omega) (by omega)]
  simp only [Option.bind_some, decide_eq_true_eq]
  by_cases h1 : a = a'
  · rw [if_pos h1, Equal_tells b b' k (by omega) (by omega)]
    simp only [Option.bind_some, decide_eq_true_eq]
    by_cases h2 : b = b'
    · rw [if_pos h2, Equal_tells c c' k (by omega) (by omega)]
      simp [h1, h2]
    · rw [if_neg h2]; simp [h2]
  · rw [if_neg h1]; simp [h1]
theorem implColoredSame_tells (a b c e a' b' c' e' : List Int) (k : Nat) (ha : a.length ≤ 1048576) (hb : b.length ≤ 1048576) (hc : c.length ≤ 1048576) (he : e.length ≤ 1048576) (hk : 1048577 ≤ k) :
    impl_ColoredSame.f k a b c e a' b' c' e' = some (decide (a = a' ∧ b = b' ∧ c = c' ∧ e = e')) := by
  unfold impl_ColoredSame.f
  rw [implHeapSame_tells a b c a' b' c' k ha hb hc hk]
  simp only [Option.bind_some, decide_eq_true_eq]
  by_cases h1 : a = a' ∧ b = b' ∧ c = c'
  · rw [if_pos h1, Equal_tells e e' k (by omega) (by omega)]
    obtain ⟨rfl, rfl, rfl⟩ := h1
    simp
  · rw [if_neg h1]
    simp only [Option.some.injEq]
    exact (decide_eq_false (fun h => h1 ⟨h.1, h.2.1, h.2.2.1⟩)).symm
theorem implSR_l0 (a b r c : List Int) {n : Nat} (hc : ∀ x ∈ c, -1 ≤ x ∧ x < (n : Int)) (hl : c.length ≤ 1048576) : ∀ (d i k : Nat) (e : List Int), i ≤ c.length → c.length - i = d → d < k → e.length = n → impl_ShadeRoots.l0 k c (c.length : Int) (i : Int) a b r e = some (a, b, r, shAll (c.drop i) e, true) := by
  intro d
  induction d with
  | zero =>
    intro i k e hi hd hk he
    obtain ⟨k, rfl⟩ : ∃ m, k = m + 1 := ⟨k - 1, by omega⟩
    rw [impl_ShadeRoots.l0, if_neg (by omega), List.drop_eq_nil_of_le (by omega)]
    rfl
  | succ d ih =>
    intro i k e hi hd hk he
    obtain ⟨k, rfl⟩ : ∃ m, k = m + 1 := ⟨k - 1, by omega⟩
    have hlt : i < c.length := by omega
    have hm := hc _ (rd_mem c (i : Int) (by omega) (by omega))
    rw [impl_ShadeRoots.l0, if_pos (by omega), if_pos (by omega), if_pos (by omega), shade_tells (by omega), drop_rd c i hlt]
    simp only [Option.bind_some]
    rw [wrap_succ hlt (by omega), ih (i + 1) k (sh e (rd c (i : Int))) (by omega) (by omega) (by omega) ((sh_len e _).trans he)]
    rfl
theorem implSR_tells (a b c e : List Int) (k : Nat) (he : e.length ≤ 1048576) (hk : 1048601 ≤ k) : impl_ShadeRoots.f k a b c e = some (srM a b c e) := by
  unfold impl_ShadeRoots.f
  rw [implCV_tells a b c e _ he (by omega)]
  simp only [Option.bind_some]
  unfold srM
  by_cases h : cv a b c e = true
  · have hl := cv_lens h
    have hc := hv_c (cv_iff.1 h).1
    rw [if_pos h, if_pos h, fresh_tells a b c e (by omega) (by omega) (by omega) he]
    simp only [Option.bind_some]
    exact implSR_l0 a b c c hc (by omega) c.length 0 k e (by omega) (by omega) (by omega) (by omega)
  · rw [if_neg h, if_neg h]
theorem srM_pos {a b c e : List Int} (h : cv a b c e = true) : srM a b c e = (a, b, c, shAll c e, true) := by unfold srM; rw [if_pos h]
theorem maM_pos {a b c e : List Int} (h : cv a b c e = true) : maM a b c e = (a, b, c, markN a b (nblk e) e, true) := by unfold maM; rw [if_pos h]
/-- What marking leaves black is what is live; the rest stays white. -/
theorem mark_live {a b c : List Int} (h : hv a b c = true) : cv a b c (markN a b (nblk (shAll c (List.replicate a.length 0))) (shAll c (List.replicate a.length 0))) = true ∧ ∀ i : Nat, i < a.length → (rdOf false (reachM a b c) (i : Int) = true → rd (markN a b (nblk (shAll c (List.replicate a.length 0))) (shAll c (List.replicate a.length 0))) (i : Int) = 2) ∧ (rdOf false (reachM a b c) (i : Int) = false → rd (markN a b (nblk (shAll c (List.replicate a.length 0))) (shAll c (List.replicate a.length 0))) (i : Int) = 0) := by
  have hz := cv_zeros h
  have hs := cv_shAll hz c
  obtain ⟨m1, m2, m3⟩ := markN_inv (Mk a b c) (fun e i he hi hg hm => mk_blk he hi hg hm) (nblk (shAll c (List.replicate a.length 0))) (shAll c (List.replicate a.length 0)) (Nat.le_refl _) hs (mk_start h)
  generalize markN a b (nblk (shAll c (List.replicate a.length 0))) (shAll c (List.replicate a.length 0)) = e at m1 m2 m3 ⊢
  refine ⟨m1, fun i hi => ⟨fun hr => ?_, fun hr => ?_⟩⟩
  · obtain ⟨d, w⟩ := (reach_way h (x := (i : Int)) (by omega) (by omega)).1 hr
    exact mk_end m1 m2 m3 d (i : Int) w
  · have hl := cv_lens m1
    have hc := rd_col (cv_iff.1 m1).2.1 (q := (i : Int)) (by omega) (by omega)
    have no : ¬ 1 ≤ rd e (i : Int) := fun g => by
      obtain ⟨d, w⟩ := m2.live (i : Int) (by omega) (by omega) g
      have := (reach_way h (x := (i : Int)) (by omega) (by omega)).2 ⟨d, w⟩
      rw [hr] at this; exact absurd this (by simp)
    omega
theorem lawML_l0 {a b c e : List Int} (h : hv a b c = true) (he : cv a b c e = true) (hm : ∀ i : Nat, i < a.length → (rdOf false (reachM a b c) (i : Int) = true → rd e (i : Int) = 2) ∧ (rdOf false (reachM a b c) (i : Int) = false → rd e (i : Int) = 0)) : ∀ (d i k : Nat), i ≤ a.length → a.length - i = d → d + 1048700 < k → laws_FnMarkLive.l0 k true true (reachM a b c) (i : Int) a b c a b c e = some true := by
  have hl := cv_lens he
  have hr := reachM_len_eq h
  intro d
  induction d with
  | zero =>
    intro i k hi hd hk
    obtain ⟨k, rfl⟩ : ∃ q, k = q + 1 := ⟨k - 1, by omega⟩
    rw [laws_FnMarkLive.l0, if_neg (by omega), implCV_tells a b c e k (by omega) (by omega)]
    simp only [Option.bind_some]
    rw [if_pos he, if_pos trivial, if_pos trivial, implHeapSame_tells a b c a b c k (by omega) (by omega) (by omega) (by omega)]
    simp
  | succ d ih =>
    intro i k hi hd hk
    obtain ⟨k, rfl⟩ : ∃ q, k = q + 1 := ⟨k - 1, by omega⟩
    have hlt : i < a.length := by omega
    obtain ⟨m1, m2⟩ := hm i hlt
    have nx := ih (i + 1) k (by omega) (by omega) (by omega)
    rw [laws_FnMarkLive.l0, if_pos (by omega), if_pos (by omega), if_pos (by omega), wrap_succ hlt (by omega)]
    cases hb : rdOf false (reachM a b c) (i : Int) with
    | true => rw [m1 hb, if_neg (by simp), if_pos rfl]; exact nx
    | false => rw [m2 hb, if_neg (by simp), if_neg (by simp), if_pos rfl]; exact nx
theorem pure_FnMarkLive (code : List Int) (_hl : code.length ≤ 9223372036854775807) (hb : ∀ x ∈ code, 0 ≤ x ∧ x ≤ 255) : ∃ k, laws_FnMarkLive.f k code = some true := by
  refine ⟨3200000, ?_⟩
  obtain ⟨k, hk⟩ : ∃ k : Nat, k = 3199999 := ⟨_, rfl⟩
  rw [show 3200000 = k + 1 from by omega]
  unfold laws_FnMarkLive.f
  by_cases h0 : (code.length : Int) > 1048576
  · rw [if_pos h0]
  rw [if_neg h0]
  obtain ⟨a, b, c, e1, s1, s2, s3⟩ := drawNewColored_tells (code := code) hb (k + 1) (by omega)
  have hm := ncM_lens a b c
  rw [e1]
  simp only [Option.bind_some]
  rw [implNC_tells a b c (k + 1) (by omega), specNC_tells a b c (k + 1) (by omega)]
  simp only [Option.bind_some]
  rw [implColoredSame_tells _ _ _ _ _ _ _ _ (k + 1) (by omega) (by omega) (by omega) (by omega) (by omega)]
  simp only [Option.bind_some]
  rw [if_pos (by simp), if_neg (by simp), laws_FnMarkLive.j0]
  by_cases h : hv a b c = true
  · have hz := cv_zeros h
    have hs := cv_shAll hz c
    have hl := cv_lens hz
    have hl2 := cv_lens hs
    obtain ⟨q1, q2⟩ := mark_live h
    rw [ncM_pos h, if_neg (by simp), implSR_tells a b c (List.replicate a.length 0) k (by omega) (by omega), srM_pos hz]
    simp only [Option.bind_some]
    rw [implMA_tells a b c (shAll c (List.replicate a.length 0)) k (by omega) (by omega), maM_pos hs]
    simp only [Option.bind_some]
    rw [implRE_tells a b c k (by omega)]
    simp only [Option.bind_some]
    exact lawML_l0 h q1 q2 a.length 0 k (by omega) (by omega) (by omega)
  · rw [ncM_neg h, if_pos (by simp), implColoredSame_tells _ _ _ _ _ _ _ _ k (by simp) (by simp) (by simp) (by simp) (by omega)]
    simp
end Go.Proofs.Ytkbaggfkidalfaa.A
