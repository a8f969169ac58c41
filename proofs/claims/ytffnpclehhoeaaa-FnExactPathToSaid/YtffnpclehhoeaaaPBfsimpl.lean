/- Contracts of functions of the given program (PBfsimpl). No conditions beyond those stated. -/
import Derived.Test.YtffnpclehhoeaaaAImplDistances
import Derived.Test.YtffnpclehhoeaaaPBase
import Derived.Test.YtffnpclehhoeaaaPBfs
import Derived.Test.YtffnpclehhoeaaaPHvdef
import Derived.Test.YtffnpclehhoeaaaA0
namespace Go.Proofs.Ytffnpclehhoeaaa.A
open Go.RowKit Go.Proofs.YtffnpclehhoeaaaW.PrintWords Go.Proofs.YtffnpclehhoeaaaW.PrintLast Go.Proofs.YtffnpclehhoeaaaW.PrintMore
attribute [local go_sem] max2_int min2_int max_two min_two max_three min_three max_four min_four   -- for this text's walks alone
set_option linter.unusedVariables false
set_option linter.unusedSimpArgs false

/-- The distances where 0 says that there is none. -/
def zd (l : List Int) : List Int := l.map (fun x => if x < 0 then 0 else x)
theorem zd_len (l : List Int) : (zd l).length = l.length := by unfold zd; simp
theorem zd_rd (l : List Int) (x : Int) (h0 : 0 ≤ x) (h : x < (l.length : Int)) : rd (zd l) x = if rd l x < 0 then 0 else rd l x := by
  obtain ⟨n, rfl⟩ : ∃ n : Nat, x = (n : Int) := ⟨x.toNat, by omega⟩
  rw [rd_nat _ n (by rw [zd_len]; omega), rd_nat l n (by omega)]; unfold zd; simp
theorem zd_rep (n : Nat) : zd (List.replicate n (-1)) = List.replicate n 0 := by unfold zd; simp
theorem meetOut_bm {n : Nat} {s : List Int × List Int} (h : Binv n s) {p far : Int} (hp : p = -1 ∨ (0 ≤ p ∧ p < (n : Int))) (h1 : 1 ≤ far) : meetOut (zd s.1) p far = zd (bm s p far).1 ∧ meetOpen (zd s.1) s.2 p = (bm s p far).2 := by
  unfold meetOut meetOpen bm
  by_cases c1 : p = -1
  · rw [if_neg (by simp [c1]), if_neg (by simp [c1]), if_neg (by simp [c1])]; exact ⟨rfl, rfl⟩
  · obtain ⟨hp0, hp1⟩ := hp.resolve_left c1
    have hl := h.len
    have hz := zd_rd s.1 p hp0 (by omega)
    by_cases c2 : rd s.1 p < 0
    · rw [if_pos c2] at hz
      rw [if_pos (show p ≠ -1 ∧ rd (zd s.1) p = 0 from ⟨c1, hz⟩), if_pos (show p ≠ -1 ∧ rd (zd s.1) p = 0 from ⟨c1, hz⟩), if_pos (show p ≠ -1 ∧ rd s.1 p < 0 from ⟨c1, c2⟩)]
      refine ⟨?_, rfl⟩
      unfold zd
      rw [List.map_set, if_neg (by omega)]
    · rw [if_neg c2] at hz
      have hv := h.val p hp0 hp1
      have hn : ¬ (p ≠ -1 ∧ rd (zd s.1) p = 0) := by rw [hz]; intro hh; omega
      rw [if_neg hn, if_neg hn, if_neg (show ¬ (p ≠ -1 ∧ rd s.1 p < 0) from fun hh => c2 hh.2)]; exact ⟨rfl, rfl⟩
theorem meetOk_iff {n : Nat} {p : Int} (h : p = -1 ∨ (0 ≤ p ∧ p < (n : Int))) : meetOk n p = true := by unfold meetOk; exact decide_eq_true h
theorem implD_l0 (n : Nat) (hn : n ≤ 8) (a b r : List Int) (gr : ∀ x ∈ r, -1 ≤ x ∧ x < (n : Int)) (hr : r.length ≤ 1000) : ∀ (d i k : Nat) (s : List Int × List Int), Binv n s → i ≤ r.length → r.length - i = d →
    impl_distances.l0 (k + d + 1) (i : Int) (zd s.1) s.2 a b r = impl_distances.l1 k 0 (zd (broots (r.drop i) s).1) (broots (r.drop i) s).2 a b r := by
  intro d
  induction d with
  | zero =>
    intro i k s h hi hd
    rw [impl_distances.l0, if_neg (by omega), List.drop_eq_nil_of_le (by omega)]
    rfl
  | succ d ih =>
    intro i k s h hi hd
    have hlt : i < r.length := by omega
    have hp := okp_ptr gr (i := (i : Int)) (by omega) (by omega)
    have hl := h.len
    have hle := h.le
    have hm := meetOut_bm h hp (far := 1) (by omega)
    rw [show k + (d + 1) + 1 = (k + d + 1) + 1 from by omega, impl_distances.l0, if_pos (by omega), if_pos (by omega), if_pos (by rw [zd_len, hl]; exact meetOk_iff hp), if_pos (by omega), drop_rd r i hlt, wrap_succ hlt (by omega), hm.1, hm.2]
    exact ih (i + 1) k (bm s (rd r (i : Int)) 1) (bm_inv h hp (by omega) (by omega)) (by omega) (by omega)
theorem implD_l1 (n : Nat) (hn : n ≤ 8) (a b r : List Int) (ha : a.length = n) (hb : b.length = n) (ga : ∀ x ∈ a, -1 ≤ x ∧ x < (n : Int)) (gb : ∀ x ∈ b, -1 ≤ x ∧ x < (n : Int)) : ∀ (d i k : Nat) (s : List Int × List Int), Binv n s → i ≤ s.2.length → n - i = d → d < k →
    impl_distances.l1 k (i : Int) (zd s.1) s.2 a b r = some (zd (bloop a b (d + 1) i s).1) := by
  intro d
  induction d with
  | zero =>
    intro i k s h hi hd hk
    obtain ⟨k, rfl⟩ : ∃ m, k = m + 1 := ⟨k - 1, by omega⟩
    have hle := h.le
    rw [impl_distances.l1, if_neg (by omega), bloop, if_neg (by omega)]
  | succ d ih =>
    intro i k s h hi hd hk
    have hle := h.le
    have hl := h.len
    obtain ⟨k, rfl⟩ : ∃ m, k = m + 1 := ⟨k - 1, by omega⟩
    rw [bloop]
    by_cases c0 : i < s.2.length
    · have hc := h.op _ (rd_mem s.2 (i : Int) (by omega) (by omega))
      have hv : 1 ≤ rd s.1 (rd s.2 (i : Int)) ∧ rd s.1 (rd s.2 (i : Int)) ≤ (s.2.length : Int) := by
        rcases h.val _ hc.1 hc.2.1 with v | v
        · omega
        · exact v
      have hpa := okp_ptr ga hc.1 (by omega)
      have hpb := okp_ptr gb hc.1 (by omega)
      have i1 := bm_inv h (p := rd a (rd s.2 (i : Int))) (far := rd s.1 (rd s.2 (i : Int)) + 1) hpa (by omega) (by omega)
      have k1 := bm_keep h (p := rd a (rd s.2 (i : Int))) (far := rd s.1 (rd s.2 (i : Int)) + 1) hpa hc.1 (by omega)
      have l1 := bm_len s (rd a (rd s.2 (i : Int))) (rd s.1 (rd s.2 (i : Int)) + 1)
      have hw : wrap64 (rd s.1 (rd s.2 (i : Int)) + 1) = rd s.1 (rd s.2 (i : Int)) + 1 := wrap_id (by omega) (by omega)
      have hm1 := meetOut_bm h hpa (far := rd s.1 (rd s.2 (i : Int)) + 1) (by omega)
      have z0 : rd (zd s.1) (rd s.2 (i : Int)) = rd s.1 (rd s.2 (i : Int)) := by rw [zd_rd _ _ hc.1 (by omega), if_neg (by omega)]
      rw [if_pos c0, ← ih (i + 1) k (bstep a b s (i : Int)) (bstep_inv ha hb ga gb h (by omega) (by omega)) (by have := bstep_len a b s (i : Int); omega) (by omega) (by omega)]
      rw [impl_distances.l1, if_pos (by omega), if_pos (by omega), if_pos hc.1, if_pos (by omega), if_pos (by omega), if_pos (by rw [zd_len]; omega), zd_len, hl, if_pos (meetOk_iff hpa), if_pos (meetOk_iff hpb), if_pos (by omega), z0, hw, hm1.1, hm1.2]
      unfold bstep
      generalize bm s (rd a (rd s.2 (i : Int))) (rd s.1 (rd s.2 (i : Int)) + 1) = s1 at i1 k1 l1 ⊢
      have hm2 := meetOut_bm i1 hpb (far := rd s.1 (rd s.2 (i : Int)) + 1) (by omega)
      have l1n := i1.len
      have z1 : rd (zd s1.1) (rd s.2 (i : Int)) = rd s.1 (rd s.2 (i : Int)) := by rw [zd_rd _ _ hc.1 (by omega), k1, if_neg (by omega)]
      rw [z1, hw, hm2.1, hm2.2, wrap_succ c0 (by omega)]
    · rw [if_neg c0, impl_distances.l1, if_neg (by omega)]
theorem implD_tells (a b r : List Int) (ha : a.length ≤ 8) (hb : b.length = a.length) (ga : ∀ x ∈ a, -1 ≤ x ∧ x < (a.length : Int)) (gb : ∀ x ∈ b, -1 ≤ x ∧ x < (a.length : Int)) (gr : ∀ x ∈ r, -1 ≤ x ∧ x < (a.length : Int)) (hr : r.length ≤ 1000) :
    impl_distances.f a b r = some (zd (distM a b r)) := by
  unfold impl_distances.f
  rw [if_pos ⟨ha, hr⟩]
  obtain ⟨k, hk⟩ : ∃ m, 2000 = m + r.length + 1 := ⟨2000 - r.length - 1, by omega⟩
  rw [hk, ← zd_rep]
  have h0 := implD_l0 a.length ha a b r gr hr r.length 0 k (bstart a.length) (bstart_inv _) (by omega) (by omega)
  rw [List.drop_zero] at h0
  refine Eq.trans h0 ?_
  exact implD_l1 a.length ha a b r rfl hb ga gb a.length 0 k (broots r (bstart a.length)) (broots_inv r _ gr (bstart_inv _)) (by omega) (by omega) (by omega)

end Go.Proofs.Ytffnpclehhoeaaa.A
