/- Contracts of functions of the given program (PPathimpl). No conditions beyond those stated. -/
import Derived.Test.YtffnpclehhoeaaaAImplPathTo
import Derived.Test.YtffnpclehhoeaaaPBase
import Derived.Test.YtffnpclehhoeaaaPBfs
import Derived.Test.YtffnpclehhoeaaaPBfsimpl
import Derived.Test.YtffnpclehhoeaaaPCellimpl
import Derived.Test.YtffnpclehhoeaaaPHvdef
import Derived.Test.YtffnpclehhoeaaaPPath
import Derived.Test.YtffnpclehhoeaaaPSrc
import Derived.Test.YtffnpclehhoeaaaPSrcimpl
import Derived.Test.YtffnpclehhoeaaaA0
namespace Go.Proofs.Ytffnpclehhoeaaa.A
open Go.RowKit Go.Proofs.YtffnpclehhoeaaaW.PrintWords Go.Proofs.YtffnpclehhoeaaaW.PrintLast Go.Proofs.YtffnpclehhoeaaaW.PrintMore
attribute [local go_sem] max2_int min2_int max_two min_two max_three min_three max_four min_four   -- for this text's walks alone
set_option linter.unusedVariables false
set_option linter.unusedSimpArgs false

theorem src_find (a b d : List Int) (x v : Int) (hd : d.length = a.length) : ∀ (e i : Nat), a.length - i = e → (srcFrom a b x i).findSome? (fun y => if rd d y = v then some y else none) = fnd a b d x v i := by
  intro e
  induction e with
  | zero => intro i he; rw [srcFrom_nil _ _ _ _ (by omega), fnd_nil _ _ _ _ _ _ (by omega)]; rfl
  | succ e ih =>
    intro i he
    rw [srcFrom_cons _ _ _ _ (by omega), fnd_cons _ _ _ _ _ _ (by omega)]
    by_cases h1 : rd a (i : Int) = x ∨ rd b (i : Int) = x
    · rw [if_pos h1]
      by_cases h2 : rd d (i : Int) = v
      · rw [if_pos ⟨h2, h1⟩]
        simp [h2]
      · rw [if_neg (fun hh => h2 hh.1), ← ih (i + 1) (by omega)]
        simp [h2]
    · rw [if_neg h1, if_neg (fun hh => h1 hh.2), List.nil_append]
      exact ih (i + 1) (by omega)
theorem srcFrom_mem (a b : List Int) (x : Int) : ∀ y ∈ srcFrom a b x 0, 0 ≤ y ∧ y < (a.length : Int) := by
  intro y hy
  unfold srcFrom at hy
  rw [List.mem_filterMap] at hy
  obtain ⟨j, hj, hy⟩ := hy
  rw [List.drop_zero, List.mem_range] at hj
  split at hy
  · obtain rfl := Option.some.inj hy; omega
  · exact absurd hy (by simp)
theorem implPA_l1 (a b c d : List Int) (o L : List Int) (ha : a.length = d.length) (hl : d.length ≤ 8) (ho : 0 < o.length) (ho2 : o.length ≤ 1000) (hL : L.length ≤ 8) (hm : ∀ y ∈ L, 0 ≤ y ∧ y < (a.length : Int)) (x0 : 0 ≤ rd o 0) (x1 : rd o 0 < (a.length : Int)) (kk : Nat) (j : Int) : ∀ (e i k : Nat), L.length - i = e → (L.drop i).findSome? (fun y => if rd d y = wrap64 (rd d (rd o 0) - 1) then some y else none) = some j → e + 1 + kk ≤ k →
    ∃ k', kk ≤ k' ∧ impl_PathTo.l1 k d o L (L.length : Int) (i : Int) a b c = impl_PathTo.l0 k' d (j :: o) a b c := by
  intro e
  induction e with
  | zero => intro i k he hj hk; rw [List.drop_eq_nil_of_le (by omega)] at hj; exact absurd hj (by simp)
  | succ e ih =>
    intro i k he hj hk
    obtain ⟨k, rfl⟩ : ∃ m, k = m + 1 := ⟨k - 1, by omega⟩
    have hlt : i < L.length := by omega
    have hy := hm _ (rd_mem L (i : Int) (by omega) (by omega))
    rw [drop_rd L i hlt, List.findSome?_cons] at hj
    rw [impl_PathTo.l1, if_pos (by omega), if_pos (by omega), if_pos (by omega), if_pos hy.1, if_pos (by omega), if_pos (by omega), if_pos x0, if_pos (by omega), wrap_succ hlt (by omega)]
    by_cases h1 : rd d (rd L (i : Int)) = wrap64 (rd d (rd o 0) - 1)
    · rw [if_pos h1] at hj
      obtain rfl := Option.some.inj hj
      refine ⟨k, by omega, ?_⟩
      rw [if_pos h1]
      simp only [Option.bind_some]
      rw [if_pos (by simp; omega)]
      rfl
    · rw [if_neg h1] at hj
      obtain ⟨k', h3, h4⟩ := ih (i + 1) k (by omega) hj (by omega)
      exact ⟨k', h3, by rw [if_neg h1]; exact h4⟩
theorem fnd_zd (a b d : List Int) (x v : Int) (hv0 : 1 ≤ v) : ∀ (e i : Nat), d.length - i = e → fnd a b (zd d) x v i = fnd a b d x v i := by
  intro e
  induction e with
  | zero => intro i he; rw [fnd_nil _ _ _ _ _ _ (by rw [zd_len]; omega), fnd_nil _ _ _ _ _ _ (by omega)]
  | succ e ih =>
    intro i he
    have hz := zd_rd d (i : Int) (by omega) (by omega)
    rw [fnd_cons a b (zd d) x v i (by rw [zd_len]; omega), fnd_cons a b d x v i (by omega), ih (i + 1) (by omega)]
    have : rd (zd d) (i : Int) = v ↔ rd d (i : Int) = v := by
      rw [hz]
      by_cases h : rd d (i : Int) < 0
      · rw [if_pos h]; omega
      · rw [if_neg h]
    simp only [this]
theorem implPA_l0 {a b c : List Int} (hv0 : hv a b c = true) : ∀ (m : Nat) (o : List Int) (k : Nat), m ≤ 100 → PInv a.length (distM a b c) o m → o.length + m ≤ 900 → 20 * m + 100 ≤ k →
    impl_PathTo.l0 k (zd (distM a b c)) o a b c = some (pathFrom a b (distM a b c) m o, true) := by
  have hl := hv_len hv0
  have hdl := distM_len (by omega) (hv_a hv0) (hv_b hv0) (hv_c hv0)
  intro m
  induction m with
  | zero =>
    intro o k hm h ho hk
    obtain ⟨k, rfl⟩ : ∃ m, k = m + 1 := ⟨k - 1, by omega⟩
    have h0 := h.ne
    have h1 := h.lo
    have h2 := h.hi
    have h3 := h.dist
    rw [impl_PathTo.l0, if_pos (by omega), if_pos (by omega), if_pos (by rw [zd_len]; omega), if_neg, pathFrom]
    rw [zd_rd _ _ h1 (by omega), if_neg (by omega)]; omega
  | succ m ih =>
    intro o k hm h ho hk
    obtain ⟨k, rfl⟩ : ∃ m, k = m + 1 := ⟨k - 1, by omega⟩
    have h0 := h.ne
    have h1 := h.lo
    have h2 := h.hi
    have h3 := h.dist
    obtain ⟨j, hj, hp, _⟩ := p_next (by omega) (hv_a hv0) (hv_b hv0) (hv_c hv0) h
    have hz : rd (zd (distM a b c)) (rd o 0) = (m : Int) + 2 := by rw [zd_rd _ _ h1 (by omega), if_neg (by omega)]; omega
    have hw : wrap64 (rd (zd (distM a b c)) (rd o 0) - 1) = (m : Int) + 1 := by rw [hz]; unfold wrap64; omega
    have hs : srcM a b c (rd o 0) = srcFrom a b (rd o 0) 0 := by unfold srcM; rw [if_pos (cellM_iff.2 ⟨hv0, h1, h2⟩)]
    have hsl := srcFrom_len a b (rd o 0) 0
    rw [impl_PathTo.l0, if_pos (by omega), if_pos (by omega), if_pos (by rw [zd_len]; omega), if_pos (by omega), implSrc_tells a b c (rd o 0) k (by omega), hs, pathFrom, hj]
    simp only [Option.bind_some]
    obtain ⟨k', h5, h4⟩ := implPA_l1 a b c (zd (distM a b c)) o (srcFrom a b (rd o 0) 0) (by rw [zd_len]; omega) (by rw [zd_len]; omega) h0 (by omega) (by omega) (srcFrom_mem a b (rd o 0)) h1 h2 (20 * m + 100) j (srcFrom a b (rd o 0) 0).length 0 k (by omega) (by rw [List.drop_zero, hw, src_find a b (zd (distM a b c)) (rd o 0) ((m : Int) + 1) (by rw [zd_len]; omega) a.length 0 (by omega), fnd_zd _ _ _ _ _ (by omega) (distM a b c).length 0 (by omega)]; exact hj) (by omega)
    refine Eq.trans h4 ?_
    exact ih (j :: o) k' (by omega) hp (by rw [List.length_cons]; omega) (by omega)
theorem implPA_tells (a b c : List Int) (x : Int) (k : Nat) (hk : 2000 ≤ k) : impl_PathTo.f k a b c x = some (pathM a b c x) := by
  unfold impl_PathTo.f pathM
  rw [has_tells a b c x k (by omega)]
  simp only [Option.bind_some]
  by_cases h : cellM a b c x = true
  · have hh := cellM_iff.1 h
    have hl := hv_len hh.1
    have hi := distM_inv (by omega) (hv_a hh.1) (hv_b hh.1) (hv_c hh.1)
    have hle := hi.le
    have hdl := distM_len (by omega) (hv_a hh.1) (hv_b hh.1) (hv_c hh.1)
    have hz := zd_rd (distM a b c) x hh.2.1 (by omega)
    rw [if_pos h, if_pos h, implD_tells a b _ (by omega) (by omega) (hv_a hh.1) (hv_b hh.1) (hv_c hh.1) (by omega)]
    simp only [Option.bind_some]
    rw [if_pos hh.2.1, if_pos (by rw [zd_len]; omega)]
    by_cases h2 : rd (distM a b c) x < 0
    · rw [if_pos h2] at hz
      rw [if_pos hz, if_pos h2]
    · rw [if_neg h2] at hz
      have hv2 : 1 ≤ rd (distM a b c) x ∧ rd (distM a b c) x ≤ 8 := by
        rcases hi.val x hh.2.1 hh.2.2 with v | v
        · have v' : rd (distM a b c) x = -1 := v
          omega
        · have v' : rd (distM a b c) x ≤ _ := v.2
          exact ⟨v.1, by omega⟩
      have e : rd (distM a b c) x = (((rd (distM a b c) x).toNat - 1 : Nat) : Int) + 1 := by omega
      rw [if_neg (by omega), if_neg h2]
      exact implPA_l0 hh.1 ((rd (distM a b c) x).toNat - 1) [x] k (by omega) ⟨by simp, hh.2.1, hh.2.2, e⟩ (by simp; omega) (by omega)
  · rw [if_neg h, if_neg h]

end Go.Proofs.Ytffnpclehhoeaaa.A
