/- Contracts of functions of the given program (PBfsspec). No conditions beyond those stated. -/
import Derived.Test.YtffnpclehhoeaaaASpecL2Distances
import Derived.Test.YtffnpclehhoeaaaPBase
import Derived.Test.YtffnpclehhoeaaaPBfs
import Derived.Test.YtffnpclehhoeaaaPHvdef
import Derived.Test.YtffnpclehhoeaaaPNhspec
import Derived.Test.YtffnpclehhoeaaaA0
namespace Go.Proofs.Ytffnpclehhoeaaa.A
open Go.RowKit Go.Proofs.YtffnpclehhoeaaaW.PrintWords Go.Proofs.YtffnpclehhoeaaaW.PrintLast Go.Proofs.YtffnpclehhoeaaaW.PrintMore
attribute [local go_sem] max2_int min2_int max_two min_two max_three min_three max_four min_four   -- for this text's walks alone
set_option linter.unusedVariables false
set_option linter.unusedSimpArgs false

theorem specD_l0 (n : Nat) (hn : n ≤ 8) (a b c r : List Int) (gr : ∀ x ∈ r, -1 ≤ x ∧ x < (n : Int)) (hr : r.length ≤ 1000) : ∀ (d i k : Nat) (s : List Int × List Int), Binv n s → i ≤ r.length → r.length - i = d →
    spec_l2Distances.l0 (k + d + 1) r s.1 s.2 (i : Int) a b c = spec_l2Distances.l1 k (broots (r.drop i) s).1 (broots (r.drop i) s).2 0 a b c := by
  intro d
  induction d with
  | zero =>
    intro i k s h hi hd
    rw [spec_l2Distances.l0, if_neg (by omega), List.drop_eq_nil_of_le (by omega)]
    rfl
  | succ d ih =>
    intro i k s h hi hd
    have hlt : i < r.length := by omega
    have hp := okp_ptr gr (i := (i : Int)) (by omega) (by omega)
    have hl := h.len
    have hle := h.le
    rw [show k + (d + 1) + 1 = (k + d + 1) + 1 from by omega, spec_l2Distances.l0, if_pos (by omega), if_pos (by omega), drop_rd r i hlt, wrap_succ hlt (by omega)]
    have hstep : broots (rd r (i : Int) :: r.drop (i + 1)) s = broots (r.drop (i + 1)) (bm s (rd r (i : Int)) 1) := rfl
    rw [hstep]
    have hinv := bm_inv h hp (far := 1) (by omega) (by omega)
    rw [← ih (i + 1) k (bm s (rd r (i : Int)) 1) hinv (by omega) (by omega)]
    unfold bm
    by_cases c1 : rd r (i : Int) = -1
    · rw [if_pos c1, if_neg (by simp [c1])]
    · rw [if_neg c1, if_pos (by omega), if_pos (by omega)]
      by_cases c2 : rd s.1 (rd r (i : Int)) < 0
      · rw [if_pos c2, if_pos (by omega), if_pos ⟨c1, c2⟩]
      · rw [if_neg c2, if_neg (by simp [c2])]
theorem specD_l1 (n : Nat) (hn : n ≤ 8) (a b c : List Int) (ha : a.length = n) (hb : b.length = n) (ga : ∀ x ∈ a, -1 ≤ x ∧ x < (n : Int)) (gb : ∀ x ∈ b, -1 ≤ x ∧ x < (n : Int)) : ∀ (d i k : Nat) (s : List Int × List Int), Binv n s → i ≤ s.2.length → n - i = d → 4 * d + 4 ≤ k →
    spec_l2Distances.l1 k s.1 s.2 (i : Int) a b c = some (bloop a b (d + 1) i s).1 := by
  intro d
  induction d with
  | zero =>
    intro i k s h hi hd hk
    obtain ⟨k, rfl⟩ : ∃ m, k = m + 1 := ⟨k - 1, by omega⟩
    have hle := h.le
    rw [spec_l2Distances.l1, if_neg (by omega), bloop, if_neg (by omega)]
  | succ d ih =>
    intro i k s h hi hd hk
    have hle := h.le
    have hl := h.len
    rw [bloop]
    by_cases c0 : i < s.2.length
    · obtain ⟨k, rfl⟩ : ∃ m, k = m + 4 := ⟨k - 4, by omega⟩
      have hc := h.op _ (rd_mem s.2 (i : Int) (by omega) (by omega))
      have hv : 1 ≤ rd s.1 (rd s.2 (i : Int)) ∧ rd s.1 (rd s.2 (i : Int)) ≤ (s.2.length : Int) := by
        rcases h.val _ hc.1 hc.2.1 with v | v
        · omega
        · exact v
      have hpa := okp_ptr ga hc.1 (by omega)
      have hpb := okp_ptr gb hc.1 (by omega)
      have i1 := bm_inv h (p := rd a (rd s.2 (i : Int))) (far := rd s.1 (rd s.2 (i : Int)) + 1) hpa (by omega) (by omega)
      have k1 := bm_keep h (p := rd a (rd s.2 (i : Int))) (far := rd s.1 (rd s.2 (i : Int)) + 1) hpa hc.1 (by omega)
      have l1 := bm_len s (rd a (rd s.2 (i : Int))) (rd s.1 (rd s.2 (i : Int)) + 1)
      have hw : wrap64 (rd s.1 (rd s.2 (i : Int)) + 1) = rd s.1 (rd s.2 (i : Int)) + 1 := wrap_id (by omega) (by omega)
      rw [if_pos c0, ← ih (i + 1) k (bstep a b s (i : Int)) (bstep_inv ha hb ga gb h (by omega) (by omega)) (by have := bstep_len a b s (i : Int); omega) (by omega) (by omega)]
      rw [show k + 4 = (k + 3) + 1 from rfl, spec_l2Distances.l1, if_pos (by omega), if_pos (by omega), if_pos hc.1, if_pos (by omega), if_pos (by omega)]
      unfold bstep
      generalize hs1 : bm s (rd a (rd s.2 (i : Int))) (rd s.1 (rd s.2 (i : Int)) + 1) = s1 at i1 k1 l1 ⊢
      have l1n := i1.len
      have l1e := i1.le
      have hA : ∀ kk, spec_l2Distances.l2 (kk + 1) s.1 s.2 (i : Int) (rd s.2 (i : Int)) [rd a (rd s.2 (i : Int)), rd b (rd s.2 (i : Int))] 0 a b c = spec_l2Distances.l2 kk s1.1 s1.2 (i : Int) (rd s.2 (i : Int)) [rd a (rd s.2 (i : Int)), rd b (rd s.2 (i : Int))] 1 a b c := by
        intro kk
        have e0 : rd [rd a (rd s.2 (i : Int)), rd b (rd s.2 (i : Int))] 0 = rd a (rd s.2 (i : Int)) := rfl
        rw [spec_l2Distances.l2, if_pos (by omega), if_pos (by omega), if_pos (by simp), e0, show wrap64 (0 + 1) = 1 from by unfold wrap64; omega, ← hs1, hw]
        unfold bm
        by_cases c1 : rd a (rd s.2 (i : Int)) = -1
        · rw [if_pos c1, if_neg (by simp [c1])]
        · rw [if_neg c1, if_pos (by omega), if_pos (by omega)]
          by_cases c2 : rd s.1 (rd a (rd s.2 (i : Int))) < 0
          · rw [if_pos c2, if_pos (by omega), if_pos (by omega), if_pos (by omega), if_pos ⟨c1, c2⟩]
          · rw [if_neg c2, if_neg (by simp [c2])]
      have hB : ∀ kk, spec_l2Distances.l2 (kk + 1) s1.1 s1.2 (i : Int) (rd s.2 (i : Int)) [rd a (rd s.2 (i : Int)), rd b (rd s.2 (i : Int))] 1 a b c = spec_l2Distances.l2 kk (bm s1 (rd b (rd s.2 (i : Int))) (rd s.1 (rd s.2 (i : Int)) + 1)).1 (bm s1 (rd b (rd s.2 (i : Int))) (rd s.1 (rd s.2 (i : Int)) + 1)).2 (i : Int) (rd s.2 (i : Int)) [rd a (rd s.2 (i : Int)), rd b (rd s.2 (i : Int))] 2 a b c := by
        intro kk
        have e0 : rd [rd a (rd s.2 (i : Int)), rd b (rd s.2 (i : Int))] 1 = rd b (rd s.2 (i : Int)) := rfl
        rw [spec_l2Distances.l2, if_pos (by omega), if_pos (by omega), if_pos (by simp), e0, show wrap64 (1 + 1) = 2 from by unfold wrap64; omega, k1, hw]
        unfold bm
        by_cases c1 : rd b (rd s.2 (i : Int)) = -1
        · rw [if_pos c1, if_neg (by simp [c1])]
        · rw [if_neg c1, if_pos (by omega), if_pos (by omega)]
          by_cases c2 : rd s1.1 (rd b (rd s.2 (i : Int))) < 0
          · rw [if_pos c2, if_pos (by omega), if_pos (by omega), if_pos (by omega), if_pos ⟨c1, c2⟩]
          · rw [if_neg c2, if_neg (by simp [c2])]
      rw [show k + 3 = (k + 2) + 1 from rfl, hA, show k + 2 = (k + 1) + 1 from rfl, hB, spec_l2Distances.l2, if_neg (by omega), wrap_succ c0 (by omega)]
    · obtain ⟨k, rfl⟩ : ∃ m, k = m + 1 := ⟨k - 1, by omega⟩
      rw [if_neg c0, spec_l2Distances.l1, if_neg (by omega)]
theorem specD_tells (a b c r : List Int) (ha : a.length ≤ 8) (hb : b.length = a.length) (ga : ∀ x ∈ a, -1 ≤ x ∧ x < (a.length : Int)) (gb : ∀ x ∈ b, -1 ≤ x ∧ x < (a.length : Int)) (gr : ∀ x ∈ r, -1 ≤ x ∧ x < (a.length : Int)) (hr : r.length ≤ 1000) (k : Nat) (hk : 2000 ≤ k) :
    spec_l2Distances.f k a b c r = some (distM a b r) := by
  unfold spec_l2Distances.f
  rw [many_tells a.length k (by omega) (by omega)]
  simp only [Option.bind_some]
  obtain ⟨k, rfl⟩ : ∃ m, k = m + r.length + 1 := ⟨k - r.length - 1, by omega⟩
  have h0 := specD_l0 a.length ha a b c r gr hr r.length 0 k (bstart a.length) (bstart_inv _) (by omega) (by omega)
  rw [List.drop_zero] at h0
  refine Eq.trans h0 ?_
  have h1 := specD_l1 a.length ha a b c rfl hb ga gb a.length 0 k (broots r (bstart a.length)) (broots_inv r _ gr (bstart_inv _)) (by omega) (by omega) (by omega)
  exact h1

end Go.Proofs.Ytffnpclehhoeaaa.A
