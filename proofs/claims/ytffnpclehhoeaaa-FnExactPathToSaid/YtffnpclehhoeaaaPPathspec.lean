/- Contracts of functions of the given program (PPathspec). No conditions beyond those stated. -/
import Derived.Test.YtffnpclehhoeaaaASpecPathTo
import Derived.Test.YtffnpclehhoeaaaPBase
import Derived.Test.YtffnpclehhoeaaaPBfs
import Derived.Test.YtffnpclehhoeaaaPBfsspec
import Derived.Test.YtffnpclehhoeaaaPDospec
import Derived.Test.YtffnpclehhoeaaaPHvdef
import Derived.Test.YtffnpclehhoeaaaPL2pt
import Derived.Test.YtffnpclehhoeaaaPPath
import Derived.Test.YtffnpclehhoeaaaA0
namespace Go.Proofs.Ytffnpclehhoeaaa.A
open Go.RowKit Go.Proofs.YtffnpclehhoeaaaW.PrintWords Go.Proofs.YtffnpclehhoeaaaW.PrintLast Go.Proofs.YtffnpclehhoeaaaW.PrintMore
attribute [local go_sem] max2_int min2_int max_two min_two max_three min_three max_four min_four   -- for this text's walks alone
set_option linter.unusedVariables false
set_option linter.unusedSimpArgs false

theorem specPA_l1 (a b c d : List Int) (n : Int) (o : List Int) (ha : a.length = d.length) (hb : b.length = d.length) (hl : d.length ≤ 8) (ho : 0 < o.length) (ho2 : o.length ≤ 1000) (kk : Nat) (j : Int) : ∀ (e i k : Nat), d.length - i = e → fnd a b d (rd o 0) (wrap64 (n - 1)) i = some j → e + 1 + kk ≤ k →
    ∃ k', kk ≤ k' ∧ spec_PathTo.l1 k n d o (i : Int) a b c = spec_PathTo.l0 k' (wrap64 (n - 1)) d (j :: o) a b c := by
  intro e
  induction e with
  | zero => intro i k he hj hk; rw [fnd_nil _ _ _ _ _ _ (by omega)] at hj; exact absurd hj (by simp)
  | succ e ih =>
    intro i k he hj hk
    obtain ⟨k, rfl⟩ : ∃ m, k = m + 1 := ⟨k - 1, by omega⟩
    have hlt : i < d.length := by omega
    rw [fnd_cons _ _ _ _ _ _ hlt] at hj
    rw [spec_PathTo.l1, if_pos (by omega), if_pos (by omega), wrap_succ hlt (by omega)]
    by_cases h1 : rd d (i : Int) = wrap64 (n - 1)
    · rw [if_pos h1, if_pos (by omega), l2Points_tells a b c i (rd o 0) (by omega) (by omega)]
      simp only [Option.bind_some]
      by_cases h2 : rd a (i : Int) = rd o 0 ∨ rd b (i : Int) = rd o 0
      · rw [if_pos ⟨h1, h2⟩] at hj
        obtain rfl := Option.some.inj hj
        refine ⟨k, by omega, ?_⟩
        rw [if_pos (by simpa using h2), if_pos (by simp; omega)]
        rfl
      · rw [if_neg (fun hh => h2 hh.2)] at hj
        obtain ⟨k', h3, h4⟩ := ih (i + 1) k (by omega) hj (by omega)
        exact ⟨k', h3, by rw [if_neg (by simpa using h2)]; exact h4⟩
    · rw [if_neg (fun hh => h1 hh.1)] at hj
      obtain ⟨k', h3, h4⟩ := ih (i + 1) k (by omega) hj (by omega)
      exact ⟨k', h3, by rw [if_neg h1]; exact h4⟩
theorem specPA_l0 {a b c : List Int} (hv0 : hv a b c = true) : ∀ (m : Nat) (o : List Int) (k : Nat), PInv a.length (distM a b c) o m → o.length + m ≤ 900 → 20 * m + 1 ≤ k →
    spec_PathTo.l0 k ((m : Int) + 1) (distM a b c) o a b c = some (pathFrom a b (distM a b c) m o, true) := by
  have hl := hv_len hv0
  have hdl := distM_len (by omega) (hv_a hv0) (hv_b hv0) (hv_c hv0)
  intro m
  induction m with
  | zero =>
    intro o k h ho hk
    obtain ⟨k, rfl⟩ : ∃ m, k = m + 1 := ⟨k - 1, by omega⟩
    rw [spec_PathTo.l0, if_neg (by omega), pathFrom]
  | succ m ih =>
    intro o k h ho hk
    obtain ⟨k, rfl⟩ : ∃ m, k = m + 1 := ⟨k - 1, by omega⟩
    obtain ⟨j, hj, hp, _⟩ := p_next (by omega) (hv_a hv0) (hv_b hv0) (hv_c hv0) h
    have hw : wrap64 (((m + 1 : Nat) : Int) + 1 - 1) = (m : Int) + 1 := by unfold wrap64; omega
    rw [spec_PathTo.l0, if_pos (by omega), pathFrom, hj]
    obtain ⟨k', h3, h4⟩ := specPA_l1 a b c (distM a b c) (((m + 1 : Nat) : Int) + 1) o (by omega) (by omega) (by omega) h.ne (by omega) (20 * m + 1) j (distM a b c).length 0 k (by omega) (by rw [hw]; exact hj) (by omega)
    refine Eq.trans h4 ?_
    rw [hw]
    exact ih (j :: o) k' hp (by rw [List.length_cons]; omega) (by omega)
theorem specPA_tells (a b c : List Int) (x : Int) (k : Nat) (hk : 2000 ≤ k) : spec_PathTo.f k a b c x = some (pathM a b c x) := by
  unfold spec_PathTo.f pathM
  rw [specDO_tells a b c x k hk]
  simp only [Option.bind_some]
  unfold doM
  by_cases h : cellM a b c x = true
  · have hh := cellM_iff.1 h
    have hl := hv_len hh.1
    rw [if_pos h, if_pos h]
    have hi := distM_inv (by omega) (hv_a hh.1) (hv_b hh.1) (hv_c hh.1)
    have hle := hi.le
    by_cases h2 : rd (distM a b c) x < 0
    · rw [if_pos h2, if_pos h2, if_neg (by simp)]
    · rw [if_neg h2, if_neg h2, if_pos rfl, specD_tells a b c _ (by omega) (by omega) (hv_a hh.1) (hv_b hh.1) (hv_c hh.1) (by omega) k hk]
      simp only [Option.bind_some]
      have hv2 : 1 ≤ rd (distM a b c) x ∧ rd (distM a b c) x ≤ 8 := by
        rcases hi.val x hh.2.1 hh.2.2 with v | v
        · have v' : rd (distM a b c) x = -1 := v
          omega
        · have v' : rd (distM a b c) x ≤ _ := v.2
          exact ⟨v.1, by omega⟩
      have e : rd (distM a b c) x = (((rd (distM a b c) x).toNat - 1 : Nat) : Int) + 1 := by omega
      have := specPA_l0 hh.1 ((rd (distM a b c) x).toNat - 1) [x] k ⟨by simp, hh.2.1, hh.2.2, e⟩ (by simp; omega) (by omega)
      rw [← e] at this
      exact this
  · rw [if_neg h, if_neg h, if_neg (by simp)]

end Go.Proofs.Ytffnpclehhoeaaa.A
