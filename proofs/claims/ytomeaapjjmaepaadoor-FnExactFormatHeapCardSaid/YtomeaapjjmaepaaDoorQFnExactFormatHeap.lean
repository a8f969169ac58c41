/- Plain laws on lists and numbers, for FnExactFormatHeap. No conditions beyond those stated. -/
import Derived.Test.YtomeaapjjmaepaaDoorCLawsFnExactFormatHeap
import Derived.Test.YtomeaapjjmaepaaDoorAImplDigit
import Derived.Test.YtomeaapjjmaepaaDoorAImplFormatHeap
import Derived.Test.YtomeaapjjmaepaaDoorPBase
import Derived.Test.YtomeaapjjmaepaaDoorA0
import Derived.Test.YtomeaapjjmaepaaDoorAImplHeapValid
import Derived.Test.YtomeaapjjmaepaaDoorASpecHeapValid
import Derived.Test.YtomeaapjjmaepaaDoorASpecL1Points
import Derived.Test.YtomeaapjjmaepaaDoorASpecFormatHeap
import Derived.Test.YtomeaapjjmaepaaDoorASpecL13Dec
import Derived.Test.YtomeaapjjmaepaaDoorASpecL1Sign
import Derived.Test.YtomeaapjjmaepaaDoorALawsEqHeap
import Derived.Test.YtomeaapjjmaepaaDoorALawsEqIntS
import Derived.Test.YtomeaapjjmaepaaDoorALawsSzHeap
import Derived.Test.YtomeaapjjmaepaaDoorALawsSzIntS
import Derived.Test.YtomeaapjjmaepaaDoorALawsToHeap
import Derived.Test.YtomeaapjjmaepaaDoorALawsToIntS
namespace Go.Proofs.YtomeaapjjmaepaaDoor.A
open Go.RowKit Go.Proofs.YtomeaapjjmaepaaDoorW.PrintWords Go.Proofs.YtomeaapjjmaepaaDoorW.PrintLast Go.Proofs.YtomeaapjjmaepaaDoorW.PrintMore
attribute [local go_sem] max2_int min2_int max_two min_two max_three min_three max_four min_four   -- for this text's walks alone
set_option linter.unusedVariables false
set_option linter.unusedSimpArgs false
/-- A pointer of a heap of n cells. -/
def okp (n : Nat) (x : Int) : Bool := decide (-1 ≤ x ∧ x < (n : Int))
def hv (a b c : List Int) : Bool := decide (a.length = b.length ∧ 1 ≤ a.length ∧ a.length ≤ 8 ∧ 1 ≤ c.length ∧ c.length ≤ 3) && (a.all (okp a.length) && (b.all (okp a.length) && c.all (okp a.length)))
theorem hv_len {a b c : List Int} (h : hv a b c = true) : a.length = b.length ∧ 1 ≤ a.length ∧ a.length ≤ 8 ∧ 1 ≤ c.length ∧ c.length ≤ 3 := by
  unfold hv at h
  rw [Bool.and_eq_true] at h
  exact of_decide_eq_true h.1
theorem okp_iff {n : Nat} {x : Int} : okp n x = true ↔ -1 ≤ x ∧ x < (n : Int) := by unfold okp; exact decide_eq_true_iff
theorem hv_iff {a b c : List Int} : hv a b c = true ↔ (a.length = b.length ∧ 1 ≤ a.length ∧ a.length ≤ 8 ∧ 1 ≤ c.length ∧ c.length ≤ 3) ∧ (∀ x ∈ a, -1 ≤ x ∧ x < (a.length : Int)) ∧ (∀ x ∈ b, -1 ≤ x ∧ x < (a.length : Int)) ∧ (∀ x ∈ c, -1 ≤ x ∧ x < (a.length : Int)) := by
  unfold hv
  simp only [Bool.and_eq_true, decide_eq_true_eq, List.all_eq_true, okp_iff]
theorem all_drop_cons (p : Int → Bool) (l : List Int) (n : Nat) (h : n < l.length) : (l.drop n).all p = (p (rd l (n : Int)) && (l.drop (n + 1)).all p) := by
  rw [drop_rd l n h, List.all_cons]
theorem all_drop_nil (p : Int → Bool) (l : List Int) (n : Nat) (h : l.length ≤ n) : (l.drop n).all p = true := by
  rw [List.drop_eq_nil_of_le h, List.all_nil]
theorem l1Points_tells (x : Int) (n : Nat) : spec_l1Points.f x (n : Int) = some (okp n x) := by
  unfold spec_l1Points.f okp
  by_cases h : x ≥ -1
  · rw [if_pos h]; congr 1; simp; omega
  · rw [if_neg h]; congr 1; exact (decide_eq_false (fun h2 => h h2.1)).symm
theorem specHV_l1 (a b c : List Int) (n : Nat) (hl : c.length ≤ 3) : ∀ (d i k : Nat), i ≤ c.length → c.length - i = d → d < k →
    spec_HeapValid.l1 k (n : Int) (i : Int) a b c = some ((c.drop i).all (okp n)) := by
  intro d
  induction d with
  | zero =>
    intro i k hi hd hk
    obtain ⟨k, rfl⟩ : ∃ m, k = m + 1 := ⟨k - 1, by omega⟩
    rw [spec_HeapValid.l1, if_neg (by omega), all_drop_nil _ _ _ (by omega)]
  | succ d ih =>
    intro i k hi hd hk
    obtain ⟨k, rfl⟩ : ∃ m, k = m + 1 := ⟨k - 1, by omega⟩
    have hlt : i < c.length := by omega
    rw [spec_HeapValid.l1, if_pos (by omega), if_pos (by omega), l1Points_tells, all_drop_cons _ _ _ hlt, wrap_succ hlt (by omega)]
    simp only [Option.bind_some]
    cases h : okp n (rd c (i : Int)) with
    | true => rw [if_pos rfl, ih (i + 1) k (by omega) (by omega) (by omega), Bool.true_and]
    | false => rw [if_neg (by simp), Bool.false_and]
theorem specHV_l0 (a b c : List Int) (hl : c.length ≤ 3) (ha : a.length ≤ 8) (hb : b.length = a.length) : ∀ (d i k : Nat), i ≤ a.length → a.length - i = d → d + 5 < k →
    spec_HeapValid.l0 k (a.length : Int) (i : Int) a b c = some ((a.drop i).all (okp a.length) && ((b.drop i).all (okp a.length) && c.all (okp a.length))) := by
  intro d
  induction d with
  | zero =>
    intro i k hi hd hk
    obtain ⟨k, rfl⟩ : ∃ m, k = m + 1 := ⟨k - 1, by omega⟩
    rw [spec_HeapValid.l0, if_neg (by omega), all_drop_nil _ _ _ (by omega), all_drop_nil _ _ _ (by omega)]
    have := specHV_l1 a b c a.length hl c.length 0 k (by omega) (by omega) (by omega)
    simp only [List.drop_zero] at this
    rw [Bool.true_and, Bool.true_and]
    exact this
  | succ d ih =>
    intro i k hi hd hk
    obtain ⟨k, rfl⟩ : ∃ m, k = m + 1 := ⟨k - 1, by omega⟩
    have hlt : i < a.length := by omega
    have hlt2 : i < b.length := by omega
    rw [spec_HeapValid.l0, if_pos (by omega), if_pos (by omega), if_pos (by omega), l1Points_tells, all_drop_cons _ a _ hlt, all_drop_cons _ b _ hlt2]
    simp only [Option.bind_some]
    cases h : okp a.length (rd a (i : Int)) with
    | false => rw [if_neg (by simp), Bool.false_and, Bool.false_and]
    | true =>
      rw [if_pos rfl, if_pos (by omega), l1Points_tells, wrap_succ hlt (by omega)]
      simp only [Option.bind_some]
      cases h2 : okp a.length (rd b (i : Int)) with
      | false => rw [if_neg (by simp), Bool.false_and, Bool.false_and, Bool.and_false]
      | true => rw [if_pos rfl, ih (i + 1) k (by omega) (by omega) (by omega), Bool.true_and, Bool.true_and]
theorem hv_false {a b c : List Int} (h : ¬ (a.length = b.length ∧ 1 ≤ a.length ∧ a.length ≤ 8 ∧ 1 ≤ c.length ∧ c.length ≤ 3)) : hv a b c = false := by
  unfold hv; rw [decide_eq_false h, Bool.false_and]
theorem specHV_tells (a b c : List Int) (k : Nat) (hk : 40 ≤ k) : spec_HeapValid.f k a b c = some (hv a b c) := by
  unfold spec_HeapValid.f
  obtain ⟨k, rfl⟩ : ∃ m, k = m + 1 := ⟨k - 1, by omega⟩
  have hj : ∀ n : Int, spec_HeapValid.j0 (k + 1) n true a b c = some false := fun n => by rw [spec_HeapValid.j0, if_pos rfl]
  by_cases h1 : (a.length : Int) < 1
  · rw [if_pos h1, hj, hv_false (by omega)]
  rw [if_neg h1]
  by_cases h2 : (a.length : Int) > 8
  · rw [if_pos h2, hj, hv_false (by omega)]
  rw [if_neg h2]
  by_cases h3 : (b.length : Int) = (a.length : Int)
  · rw [if_pos h3]
    by_cases h4 : (c.length : Int) < 1
    · rw [if_pos h4, hj, hv_false (by omega)]
    rw [if_neg h4]
    by_cases h5 : (c.length : Int) > 3
    · rw [decide_eq_true h5, hj, hv_false (by omega)]
    rw [decide_eq_false h5, spec_HeapValid.j0, if_neg (by simp)]
    have := specHV_l0 a b c (by omega) (by omega) (by omega) a.length 0 k (by omega) (by omega) (by omega)
    simp only [List.drop_zero] at this
    refine this.trans ?_
    unfold hv
    rw [decide_eq_true (show a.length = b.length ∧ 1 ≤ a.length ∧ a.length ≤ 8 ∧ 1 ≤ c.length ∧ c.length ≤ 3 by omega), Bool.true_and]
  · rw [if_neg h3, hj, hv_false (by omega)]
theorem implHV_l1 (y : List (List Int)) (xs a b c : List Int) (i : Int) (h0 : -9223372036854775808 ≤ i) (h9 : i ≤ 9223372036854775806) (hl : xs.length ≤ 9223372036854775807) : ∀ (d j m : Nat), j ≤ xs.length → xs.length - j = d →
    impl_HeapValid.l1 (m + d + 1) y 3 i xs (xs.length : Int) (j : Int) a b c = if (xs.drop j).all (okp a.length) = true then impl_HeapValid.l0 m y 3 (i + 1) a b c else some false := by
  intro d
  induction d with
  | zero =>
    intro j m hj hd
    rw [impl_HeapValid.l1, if_neg (by omega), all_drop_nil _ _ _ (by omega), if_pos rfl, wrap_id (by omega) (by omega)]
  | succ d ih =>
    intro j m hj hd
    have hlt : j < xs.length := by omega
    rw [impl_HeapValid.l1, if_pos (by omega), if_pos (by omega), if_pos (by omega), all_drop_cons _ xs _ hlt, wrap_succ hlt hl]
    by_cases h1 : rd xs (j : Int) < -1
    · have : okp a.length (rd xs (j : Int)) = false := by unfold okp; exact decide_eq_false (by omega)
      rw [if_pos h1, this, Bool.false_and, if_neg (by simp)]
    · rw [if_neg h1]
      by_cases h2 : rd xs (j : Int) ≥ (a.length : Int)
      · have : okp a.length (rd xs (j : Int)) = false := by unfold okp; exact decide_eq_false (by omega)
        rw [if_pos h2, this, Bool.false_and, if_neg (by simp)]
      · have : okp a.length (rd xs (j : Int)) = true := by unfold okp; exact decide_eq_true (by omega)
        rw [if_neg h2, this, Bool.true_and]
        exact ih (j + 1) m (by omega) (by omega)
theorem implHV_l0 (a b c : List Int) (m : Nat) (hb : b.length ≤ 8) (ha : a.length ≤ 8) (hc : c.length ≤ 8) :
    impl_HeapValid.l0 (m + 1 + (c.length + 1) + 1 + (b.length + 1) + 1 + (a.length + 1) + 1) [a, b, c] 3 0 a b c = some (a.all (okp a.length) && (b.all (okp a.length) && c.all (okp a.length))) := by
  have e0 : rd_L3 [a, b, c] 0 = a := rfl
  have e1 : rd_L3 [a, b, c] 1 = b := rfl
  have e2 : rd_L3 [a, b, c] 2 = c := rfl
  rw [impl_HeapValid.l0, if_pos (by omega), if_pos (by omega), if_pos (by simp), e0]
  have s0 := implHV_l1 [a, b, c] a a b c 0 (by omega) (by omega) (by omega) a.length 0 (m + 1 + (c.length + 1) + 1 + (b.length + 1) + 1) (by omega) (by omega)
  simp only [List.drop_zero] at s0
  refine Eq.trans s0 ?_
  cases hA : a.all (okp a.length) with
  | false => rfl
  | true =>
    rw [if_pos rfl, Bool.true_and]
    rw [impl_HeapValid.l0, if_pos (by omega), if_pos (by omega), if_pos (by simp), show (0 : Int) + 1 = 1 from rfl, e1]
    have s1 := implHV_l1 [a, b, c] b a b c 1 (by omega) (by omega) (by omega) b.length 0 (m + 1 + (c.length + 1) + 1) (by omega) (by omega)
    simp only [List.drop_zero] at s1
    refine Eq.trans s1 ?_
    cases hB : b.all (okp a.length) with
    | false => rfl
    | true =>
      rw [if_pos rfl, Bool.true_and]
      rw [impl_HeapValid.l0, if_pos (by omega), if_pos (by omega), if_pos (by simp), show (1 : Int) + 1 = 2 from rfl, e2]
      have s2 := implHV_l1 [a, b, c] c a b c 2 (by omega) (by omega) (by omega) c.length 0 (m + 1) (by omega) (by omega)
      simp only [List.drop_zero] at s2
      refine Eq.trans s2 ?_
      cases hC : c.all (okp a.length) with
      | false => rfl
      | true => rw [if_pos rfl, impl_HeapValid.l0, if_neg (by omega)]
theorem implHV_tells (a b c : List Int) (k : Nat) (hk : 60 ≤ k) : impl_HeapValid.f k a b c = some (hv a b c) := by
  unfold impl_HeapValid.f
  obtain ⟨k, rfl⟩ : ∃ m, k = m + 1 := ⟨k - 1, by omega⟩
  have hj : impl_HeapValid.j0 (k + 1) true a b c = some false := by rw [impl_HeapValid.j0, if_pos rfl]
  by_cases h1 : (a.length : Int) = (b.length : Int)
  · rw [if_pos h1]
    by_cases h2 : (a.length : Int) < 1
    · rw [if_pos h2, hj, hv_false (by omega)]
    rw [if_neg h2]
    by_cases h3 : (a.length : Int) > 8
    · rw [if_pos h3, hj, hv_false (by omega)]
    rw [if_neg h3]
    by_cases h4 : (c.length : Int) < 1
    · rw [if_pos h4, hj, hv_false (by omega)]
    rw [if_neg h4]
    by_cases h5 : (c.length : Int) > 3
    · rw [decide_eq_true h5, hj, hv_false (by omega)]
    rw [decide_eq_false h5, impl_HeapValid.j0, if_neg (by simp)]
    simp only [Option.bind_some]
    obtain ⟨m, hm⟩ : ∃ m, k = m + 1 + (c.length + 1) + 1 + (b.length + 1) + 1 + (a.length + 1) + 1 := ⟨k - 1 - (c.length + 1) - 1 - (b.length + 1) - 1 - (a.length + 1) - 1, by omega⟩
    have := implHV_l0 a b c m (by omega) (by omega) (by omega)
    rw [← hm] at this
    refine Eq.trans this ?_
    unfold hv
    rw [decide_eq_true (show a.length = b.length ∧ 1 ≤ a.length ∧ a.length ≤ 8 ∧ 1 ≤ c.length ∧ c.length ≤ 3 by omega), Bool.true_and]
  · rw [if_neg h1, hj, hv_false (by omega)]
/-- The byte of a pointer of one digit, or of none. -/
def gB (x : Int) : UInt8 := if x = -1 then 45 else UInt8.ofNat (48 + x.toNat)
def sgT (x : Int) : ByteArray := ⟨#[gB x]⟩
def cellsT : List Int → List Int → ByteArray → ByteArray
  | x :: a, y :: b, t => cellsT a b (t ++ ((sgT x ++ sgT y) ++ (⟨#[32]⟩ : ByteArray)))
  | _, _, t => t
def rootsT : List Int → ByteArray → ByteArray
  | x :: c, t => rootsT c (t ++ ((⟨#[32]⟩ : ByteArray) ++ sgT x))
  | [], t => t
/-- The text of a heap. -/
def textM (a b c : List Int) : ByteArray := if hv a b c = true then rootsT c (cellsT a b (⟨#[]⟩ : ByteArray) ++ (⟨#[47]⟩ : ByteArray)) else (⟨#[]⟩ : ByteArray)
theorem sgT_size (x : Int) : (sgT x).size = 1 := rfl
theorem sp_size : (⟨#[32]⟩ : ByteArray).size = 1 := rfl
theorem sl_size : (⟨#[47]⟩ : ByteArray).size = 1 := rfl
theorem ten_of {n : Nat} {l : List Int} (h : ∀ x ∈ l, -1 ≤ x ∧ x < (n : Int)) (hn : n ≤ 8) : ∀ x ∈ l, -1 ≤ x ∧ x < 10 := fun x hx => by have := h x hx; omega
theorem ten_cases {x : Int} (h : -1 ≤ x ∧ x < 10) : x = -1 ∨ x = 0 ∨ x = 1 ∨ x = 2 ∨ x = 3 ∨ x = 4 ∨ x = 5 ∨ x = 6 ∨ x = 7 ∨ x = 8 ∨ x = 9 := by omega
theorem digit_tells {x : Int} (h : -1 ≤ x ∧ x < 10) : impl_digit.f x = some (sgT x) := by
  rcases ten_cases h with rfl | rfl | rfl | rfl | rfl | rfl | rfl | rfl | rfl | rfl | rfl <;> rfl
theorem implFH_l1 (c : List Int) (hc : ∀ x ∈ c, -1 ≤ x ∧ x < 10) (hl : c.length ≤ 100) : ∀ (d i k : Nat) (t : ByteArray), i ≤ c.length → c.length - i = d → d < k → t.size + 2 * d ≤ 10000 → impl_FormatHeap.l1 k t c (c.length : Int) (i : Int) = some (rootsT (c.drop i) t) := by
  intro d
  induction d with
  | zero =>
    intro i k t hi hd hk ht
    obtain ⟨k, rfl⟩ : ∃ m, k = m + 1 := ⟨k - 1, by omega⟩
    rw [impl_FormatHeap.l1, if_neg (by omega), List.drop_eq_nil_of_le (by omega)]
    rfl
  | succ d ih =>
    intro i k t hi hd hk ht
    obtain ⟨k, rfl⟩ : ∃ m, k = m + 1 := ⟨k - 1, by omega⟩
    have hlt : i < c.length := by omega
    have hm := hc _ (rd_mem c (i : Int) (by omega) (by omega))
    have hs : ((⟨#[32]⟩ : ByteArray) ++ sgT (rd c (i : Int))).size = 2 := by rw [ByteArray.size_append, sgT_size, sp_size]
    rw [impl_FormatHeap.l1, if_pos (by omega), if_pos (by omega), if_pos (by omega), digit_tells hm]
    simp only [Option.bind_some]
    rw [if_pos (by rw [sgT_size]; omega), if_pos (by rw [hs]; omega), wrap_succ hlt (by omega), ih (i + 1) k _ (by omega) (by omega) (by omega) (by rw [ByteArray.size_append, hs]; omega), drop_rd c i hlt, rootsT]
theorem implFH_l0 (a b c : List Int) (hab : b.length = a.length) (ha : ∀ x ∈ a, -1 ≤ x ∧ x < 10) (hb : ∀ x ∈ b, -1 ≤ x ∧ x < 10) (hc : ∀ x ∈ c, -1 ≤ x ∧ x < 10) (hl : a.length ≤ 100) (hlc : c.length ≤ 100) : ∀ (d i k : Nat) (t : ByteArray), i ≤ a.length → a.length - i = d → d + c.length + 2 < k → t.size + 3 * d ≤ 5000 →
    impl_FormatHeap.l0 k t (a.length : Int) (i : Int) a b c = some (rootsT c (cellsT (a.drop i) (b.drop i) t ++ (⟨#[47]⟩ : ByteArray))) := by
  intro d
  induction d with
  | zero =>
    intro i k t hi hd hk ht
    obtain ⟨k, rfl⟩ : ∃ m, k = m + 1 := ⟨k - 1, by omega⟩
    rw [impl_FormatHeap.l0, if_neg (by omega), if_pos (by omega), List.drop_eq_nil_of_le (by omega), List.drop_eq_nil_of_le (by omega)]
    exact implFH_l1 c hc hlc c.length 0 k _ (by omega) (by omega) (by omega) (by rw [ByteArray.size_append, sl_size]; omega)
  | succ d ih =>
    intro i k t hi hd hk ht
    obtain ⟨k, rfl⟩ : ∃ m, k = m + 1 := ⟨k - 1, by omega⟩
    have hlt : i < a.length := by omega
    have ma := ha _ (rd_mem a (i : Int) (by omega) (by omega))
    have mb := hb _ (rd_mem b (i : Int) (by omega) (by omega))
    have hs : (sgT (rd a (i : Int)) ++ sgT (rd b (i : Int)) ++ (⟨#[32]⟩ : ByteArray)).size = 3 := by rw [ByteArray.size_append, ByteArray.size_append, sgT_size, sgT_size, sp_size]
    rw [impl_FormatHeap.l0, if_pos (by omega), if_pos (by omega), if_pos (by omega), digit_tells ma]
    simp only [Option.bind_some]
    rw [if_pos (by omega), digit_tells mb]
    simp only [Option.bind_some]
    rw [if_pos (by rw [sgT_size, sgT_size]; omega), if_pos (by rw [ByteArray.size_append, sgT_size, sgT_size]; omega), if_pos (by rw [hs]; omega), wrap_succ hlt (by omega), ih (i + 1) k _ (by omega) (by omega) (by omega) (by rw [ByteArray.size_append, hs]; omega), drop_rd a i hlt, drop_rd b i (by omega), cellsT]
theorem implFH_tells (a b c : List Int) (k : Nat) (hk : 100 ≤ k) : impl_FormatHeap.f k a b c = some (textM a b c) := by
  unfold impl_FormatHeap.f textM
  rw [implHV_tells a b c k (by omega)]
  simp only [Option.bind_some]
  by_cases h : hv a b c = true
  · have hl := hv_len h
    obtain ⟨_, ga, gb, gc⟩ := hv_iff.1 h
    rw [if_pos h, if_pos h]
    exact implFH_l0 a b c (by omega) (ten_of ga (by omega)) (ten_of gb (by omega)) (ten_of gc (by omega)) (by omega) (by omega) a.length 0 k _ (by omega) (by omega) (by omega) (by show 0 + 3 * a.length ≤ 5000; omega)
  · rw [if_neg h, if_neg h]
theorem nums_digit {x : Int} (h : 0 ≤ x ∧ x < 10) : strOfNums [(wrap64 (48 + x)) % 256] = sgT x := by
  rw [wrap_id (by omega) (by omega)]
  rcases ten_cases (x := x) (by omega) with g | rfl | rfl | rfl | rfl | rfl | rfl | rfl | rfl | rfl | rfl
  · omega
  all_goals rfl
theorem l1Sign_tells {x : Int} (h : -1 ≤ x ∧ x < 10) (k : Nat) (hk : 2 ≤ k) : spec_l1Sign.f k x = some (sgT x) := by
  obtain ⟨k, rfl⟩ : ∃ m, k = m + 2 := ⟨k - 2, by omega⟩
  unfold spec_l1Sign.f
  by_cases g : x = -1
  · rw [if_pos g, g]; rfl
  · rw [if_neg g, spec_l13Dec.f, if_neg (by omega), if_neg (by omega), spec_l13Dec.l0, if_neg (by omega)]
    simp only [Option.bind_some]
    rw [nums_digit (by omega), if_pos (by rw [sgT_size]; decide)]
    rfl
theorem specFH_l1 (a b c : List Int) (hc : ∀ x ∈ c, -1 ≤ x ∧ x < 10) (hl : c.length ≤ 100) : ∀ (d i k : Nat) (t : ByteArray), i ≤ c.length → c.length - i = d → d + 3 < k → t.size + 2 * d ≤ 10000 → spec_FormatHeap.l1 k t (i : Int) a b c = some (rootsT (c.drop i) t) := by
  intro d
  induction d with
  | zero =>
    intro i k t hi hd hk ht
    obtain ⟨k, rfl⟩ : ∃ m, k = m + 1 := ⟨k - 1, by omega⟩
    rw [spec_FormatHeap.l1, if_neg (by omega), List.drop_eq_nil_of_le (by omega)]
    rfl
  | succ d ih =>
    intro i k t hi hd hk ht
    obtain ⟨k, rfl⟩ : ∃ m, k = m + 1 := ⟨k - 1, by omega⟩
    have hlt : i < c.length := by omega
    have hm := hc _ (rd_mem c (i : Int) (by omega) (by omega))
    rw [spec_FormatHeap.l1, if_pos (by omega), if_pos (by omega), if_pos (by omega), l1Sign_tells hm k (by omega)]
    simp only [Option.bind_some]
    rw [if_pos (by rw [ByteArray.size_append, sgT_size, sp_size]; omega), wrap_succ hlt (by omega), ih (i + 1) k _ (by omega) (by omega) (by omega) (by rw [ByteArray.size_append, ByteArray.size_append, sgT_size, sp_size]; omega), drop_rd c i hlt, rootsT, ByteArray.append_assoc]
theorem specFH_l0 (a b c : List Int) (hab : b.length = a.length) (ha : ∀ x ∈ a, -1 ≤ x ∧ x < 10) (hb : ∀ x ∈ b, -1 ≤ x ∧ x < 10) (hc : ∀ x ∈ c, -1 ≤ x ∧ x < 10) (hl : a.length ≤ 100) (hlc : c.length ≤ 100) : ∀ (d i k : Nat) (t : ByteArray), i ≤ a.length → a.length - i = d → d + c.length + 5 < k → t.size + 3 * d ≤ 5000 →
    spec_FormatHeap.l0 k t (i : Int) a b c = some (rootsT c (cellsT (a.drop i) (b.drop i) t ++ (⟨#[47]⟩ : ByteArray))) := by
  intro d
  induction d with
  | zero =>
    intro i k t hi hd hk ht
    obtain ⟨k, rfl⟩ : ∃ m, k = m + 1 := ⟨k - 1, by omega⟩
    rw [spec_FormatHeap.l0, if_neg (by omega), if_pos (by omega), List.drop_eq_nil_of_le (by omega), List.drop_eq_nil_of_le (by omega)]
    exact specFH_l1 a b c hc hlc c.length 0 k _ (by omega) (by omega) (by omega) (by rw [ByteArray.size_append, sl_size]; omega)
  | succ d ih =>
    intro i k t hi hd hk ht
    obtain ⟨k, rfl⟩ : ∃ m, k = m + 1 := ⟨k - 1, by omega⟩
    have hlt : i < a.length := by omega
    have ma := ha _ (rd_mem a (i : Int) (by omega) (by omega))
    have mb := hb _ (rd_mem b (i : Int) (by omega) (by omega))
    have h1 : (t ++ sgT (rd a (i : Int))).size = t.size + 1 := by rw [ByteArray.size_append, sgT_size]
    have h2 : (t ++ sgT (rd a (i : Int)) ++ sgT (rd b (i : Int))).size = t.size + 2 := by rw [ByteArray.size_append, h1, sgT_size]
    have h3 : (t ++ sgT (rd a (i : Int)) ++ sgT (rd b (i : Int)) ++ (⟨#[32]⟩ : ByteArray)).size = t.size + 3 := by rw [ByteArray.size_append, h2, sp_size]
    rw [spec_FormatHeap.l0, if_pos (by omega), if_pos (by omega), l1Sign_tells ma k (by omega)]
    simp only [Option.bind_some]
    rw [if_pos (by rw [sgT_size]; omega), if_pos (by omega), l1Sign_tells mb k (by omega)]
    simp only [Option.bind_some]
    rw [if_pos (by rw [h1, sgT_size]; omega), if_pos (by rw [h2]; omega), wrap_succ hlt (by omega), ih (i + 1) k _ (by omega) (by omega) (by omega) (by rw [h3]; omega), drop_rd a i hlt, drop_rd b i (by omega), cellsT, ByteArray.append_assoc, ByteArray.append_assoc, ByteArray.append_assoc]
theorem specFH_tells (a b c : List Int) (k : Nat) (hk : 100 ≤ k) : spec_FormatHeap.f k a b c = some (textM a b c) := by
  unfold spec_FormatHeap.f textM
  rw [specHV_tells a b c k (by omega)]
  simp only [Option.bind_some]
  by_cases h : hv a b c = true
  · have hl := hv_len h
    obtain ⟨_, ga, gb, gc⟩ := hv_iff.1 h
    rw [if_pos h, if_pos h]
    exact specFH_l0 a b c (by omega) (ten_of ga (by omega)) (ten_of gb (by omega)) (ten_of gc (by omega)) (by omega) (by omega) a.length 0 k _ (by omega) (by omega) (by omega) (by show 0 + 3 * a.length ≤ 5000; omega)
  · rw [if_neg h, if_neg h]
theorem eqIntS_l0 (a b : List Int) (he : a.length = b.length) (hl : a.length ≤ 9223372036854775807) : ∀ (d n k : Nat), n ≤ a.length → a.length - n = d → d < k →
    laws_eqIntS.l0 k a b (n : Int) = some (decide (a.drop n = b.drop n)) := by
  intro d
  induction d with
  | zero =>
    intro n k hn hd hk
    obtain ⟨k, rfl⟩ : ∃ m, k = m + 1 := ⟨k - 1, by omega⟩
    rw [laws_eqIntS.l0, if_neg (by omega), List.drop_eq_nil_of_le (by omega), List.drop_eq_nil_of_le (by omega)]
    simp
  | succ d ih =>
    intro n k hn hd hk
    obtain ⟨k, rfl⟩ : ∃ m, k = m + 1 := ⟨k - 1, by omega⟩
    have hlt : n < a.length := by omega
    have hlt2 : n < b.length := by omega
    rw [laws_eqIntS.l0, if_pos (by omega), if_pos (by omega), if_pos (by omega), drop_rd a n hlt, drop_rd b n hlt2]
    by_cases h : rd a (n : Int) = rd b (n : Int)
    · rw [if_pos h, wrap_succ hlt hl, ih (n + 1) k (by omega) (by omega) (by omega), h]
      simp
    · rw [if_neg h]
      simp [h]
theorem eqIntS_tells (a b : List Int) (k : Nat) (hl : a.length ≤ 9223372036854775807) (hk : a.length < k) : laws_eqIntS.f k a b = some (decide (a = b)) := by
  unfold laws_eqIntS.f
  by_cases h : a.length = b.length
  · rw [if_pos (by omega)]
    refine Eq.trans (eqIntS_l0 a b h hl a.length 0 k (by omega) (by omega) hk) ?_
    simp
  · rw [if_neg (by omega)]
    have : a ≠ b := fun e => h (by rw [e])
    simp [this]
theorem eqHeap_tells (a b c a' b' c' : List Int) (k : Nat) (ha : a.length ≤ 1048576) (hb : b.length ≤ 1048576) (hc : c.length ≤ 1048576) (hk : 1048577 ≤ k) :
    laws_eqHeap.f k a b c a' b' c' = some (decide (a = a' ∧ b = b' ∧ c = c')) := by
  unfold laws_eqHeap.f
  rw [eqIntS_tells a a' k (by omega) (by omega)]
  simp only [Option.bind_some, decide_eq_true_eq]
  by_cases h1 : a = a'
  · rw [if_pos h1, eqIntS_tells b b' k (by omega) (by omega)]
    simp only [Option.bind_some, decide_eq_true_eq]
    by_cases h2 : b = b'
    · rw [if_pos h2, eqIntS_tells c c' k (by omega) (by omega)]
      by_cases h3 : c = c' <;> simp [h1, h2, h3]
    · rw [if_neg h2]; simp [h2]
  · rw [if_neg h1]; simp [h1]
theorem szIntS_tells (l : List Int) (L : Int) (h0 : 0 ≤ L) (h1 : L ≤ 1048576) (hl : l.length ≤ 9223372036854775807) :
    laws_szIntS.f l L = some (if (l.length : Int) ≤ L then L - l.length else -1) := by
  unfold laws_szIntS.f
  rw [wrap_id (by omega) (by omega)]
  by_cases h : (l.length : Int) ≤ L
  · rw [if_neg (by omega), if_pos h]
  · rw [if_pos (by omega), if_neg h]
/-- What is left behind a heap: not less than 0 exactly if it fits. -/
theorem szHeap_tells (a b c : List Int) (L : Int) (h0 : 0 ≤ L) (h1 : L ≤ 1048576) (ha : a.length ≤ 9223372036854775807) (hb : b.length ≤ 9223372036854775807) (hc : c.length ≤ 9223372036854775807) :
    laws_szHeap.f a b c L = some (if (a.length : Int) + b.length + c.length ≤ L then L - a.length - b.length - c.length else -1) := by
  unfold laws_szHeap.f
  rw [szIntS_tells a L h0 h1 ha]
  simp only [Option.bind_some]
  by_cases h2 : (a.length : Int) ≤ L
  · rw [if_pos h2, if_neg (by omega), szIntS_tells b _ (by omega) (by omega) hb]
    simp only [Option.bind_some]
    by_cases h3 : (b.length : Int) ≤ L - a.length
    · rw [if_pos h3, if_neg (by omega), szIntS_tells c _ (by omega) (by omega) hc]
      simp only [Option.bind_some]
      by_cases h4 : (c.length : Int) ≤ L - a.length - b.length
      · rw [if_pos h4, if_neg (by omega), if_pos (by omega)]
      · rw [if_neg h4, if_pos (by omega), if_neg (by omega)]
    · rw [if_neg h3, if_pos (by omega), if_neg (by omega)]
  · rw [if_neg h2, if_pos (by omega), if_neg (by omega)]
theorem toIntS_l0 (l : List Int) (hl : l.length ≤ 9223372036854775807) : ∀ (d n k : Nat) (x : List Int), n ≤ l.length → l.length - n = d → d < k → x.length = l.length → x.take n = l.take n →
    laws_toIntS.l0 k l x (n : Int) = some l := by
  intro d
  induction d with
  | zero =>
    intro k' k x hn hd hk hx he
    obtain ⟨k, rfl⟩ : ∃ m, k = m + 1 := ⟨k - 1, by omega⟩
    rw [laws_toIntS.l0, if_neg (by omega)]
    obtain rfl : k' = l.length := by omega
    rw [List.take_of_length_le (by omega), List.take_of_length_le (by omega)] at he
    rw [he]
  | succ d ih =>
    intro n k x hn hd hk hx he
    obtain ⟨k, rfl⟩ : ∃ m, k = m + 1 := ⟨k - 1, by omega⟩
    have hlt : n < l.length := by omega
    rw [laws_toIntS.l0, if_pos (by omega), if_pos (by omega), if_pos (by omega), wrap_succ hlt hl, Int.toNat_natCast]
    exact ih (n + 1) k _ (by omega) (by omega) (by omega) (by simpa using hx) (set_take l x n hlt hx he)
theorem toIntS_tells (l : List Int) (k : Nat) (hl : l.length ≤ 1048576) (hk : l.length < k) : laws_toIntS.f k l = some l := by
  unfold laws_toIntS.f
  rw [if_pos (by omega), if_pos (by omega)]
  exact toIntS_l0 l (by omega) l.length 0 k _ (by omega) (by omega) hk (by simp) (by simp)
theorem toHeap_tells (a b c : List Int) (k : Nat) (ha : a.length ≤ 1048576) (hb : b.length ≤ 1048576) (hc : c.length ≤ 1048576) (hk : 1048577 ≤ k) : laws_toHeap.f k a b c = some (a, b, c) := by
  unfold laws_toHeap.f
  rw [toIntS_tells a k ha (by omega), toIntS_tells b k hb (by omega), toIntS_tells c k hc (by omega)]
  rfl
theorem pure_FnExactFormatHeap (a b c : List Int) (ha : a.length ≤ 9223372036854775807) (hb : b.length ≤ 9223372036854775807) (hc : c.length ≤ 9223372036854775807) : ∃ k, laws_FnExactFormatHeap.f k a b c = some true := by
  refine ⟨1048600, ?_⟩
  obtain ⟨k, hk⟩ : ∃ k : Nat, k = 1048600 := ⟨_, rfl⟩
  rw [← hk]
  unfold laws_FnExactFormatHeap.f
  rw [szHeap_tells a b c 1048576 (by omega) (by omega) ha hb hc]
  simp only [Option.bind_some]
  by_cases h : (a.length : Int) + b.length + c.length ≤ 1048576
  · rw [if_pos h, if_neg (by omega), toHeap_tells a b c k (by omega) (by omega) (by omega) (by omega)]
    simp only [Option.bind_some]
    rw [specFH_tells a b c k (by omega), implFH_tells a b c k (by omega)]
    simp only [Option.bind_some]
    rw [if_pos trivial, eqHeap_tells a b c a b c k (by omega) (by omega) (by omega) (by omega)]
    simp
  · rw [if_neg h, if_pos (by omega)]
end Go.Proofs.YtomeaapjjmaepaaDoor.A
