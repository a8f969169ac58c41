/- Plain laws on lists and numbers, for FnPathParts. No conditions beyond those stated. -/
import Derived.Test.YtghgpinhghhlgaaASpecDrawPathTo
import Derived.Test.YtghgpinhghhlgaaCLawsFnPathParts
import Derived.Test.YtghgpinhghhlgaaPBase
import Derived.Test.YtghgpinhghhlgaaA0
import Derived.Test.YtghgpinhghhlgaaAImplDistanceOf
import Derived.Test.YtghgpinhghhlgaaAImplDistances
import Derived.Test.YtghgpinhghhlgaaAImplHas
import Derived.Test.YtghgpinhghhlgaaAImplHeapValid
import Derived.Test.YtghgpinhghhlgaaASpecHeapValid
import Derived.Test.YtghgpinhghhlgaaASpecL1Points
import Derived.Test.YtghgpinhghhlgaaALawsCcInts
import Derived.Test.YtghgpinhghhlgaaASpecL2Case
import Derived.Test.YtghgpinhghhlgaaASpecL1Case
import Derived.Test.YtghgpinhghhlgaaASpecL1Draw
import Derived.Test.YtghgpinhghhlgaaASpecL1Many
import Derived.Test.YtghgpinhghhlgaaASpecNewHeap
import Derived.Test.YtghgpinhghhlgaaASpecL13Open
import Derived.Test.YtghgpinhghhlgaaASpecL13RdNum
import Derived.Test.YtghgpinhghhlgaaASpecL13RdPick
import Derived.Test.YtghgpinhghhlgaaASpecL1Wrong
import Derived.Test.YtghgpinhghhlgaaASpecL1Copy
import Derived.Test.YtghgpinhghhlgaaAImplPathTo
import Derived.Test.YtghgpinhghhlgaaAImplSourcesOf
import Derived.Test.YtghgpinhghhlgaaASpecPathTo
import Derived.Test.YtghgpinhghhlgaaASpecL2Distances
import Derived.Test.YtghgpinhghhlgaaASpecDistanceOf
import Derived.Test.YtghgpinhghhlgaaASpecL1Cell
import Derived.Test.YtghgpinhghhlgaaASpecL2Points
namespace Go.Proofs.Ytghgpinhghhlgaa.A
open Go.RowKit Go.Proofs.YtghgpinhghhlgaaW.PrintWords Go.Proofs.YtghgpinhghhlgaaW.PrintLast Go.Proofs.YtghgpinhghhlgaaW.PrintMore
attribute [local go_sem] max2_int min2_int max_two min_two max_three min_three max_four min_four   -- for this text's walks alone
set_option linter.unusedVariables false
set_option linter.unusedSimpArgs false
/-- A pointer of a heap of n cells. -/
def okp (n : Nat) (x : Int) : Bool := decide (-1 ≤ x ∧ x < (n : Int))
def hv (a b c : List Int) : Bool := decide (a.length = b.length ∧ 1 ≤ a.length ∧ a.length ≤ 8 ∧ 1 ≤ c.length ∧ c.length ≤ 3) && (a.all (okp a.length) && (b.all (okp a.length) && c.all (okp a.length)))
theorem hv_len {a b c : List Int} (h : hv a b c = true) : a.length = b.length ∧ 1 ≤ a.length ∧ a.length ≤ 8 ∧ 1 ≤ c.length ∧ c.length ≤ 3 := by
  unfold hv at h
  rw [Bool.and_eq_true] at h
  exact of_decide_eq_true h.1
theorem okp_iff {n : Nat} {x : Int} : okp n x = true ↔ -1 ≤ x ∧ x < (n : Int) := by unfold okp; exact decide_eq_true_iff
theorem hv_iff {a b c : List Int} : hv a b c = true ↔ (a.length = b.length ∧ 1 ≤ a.length ∧ a.length ≤ 8 ∧ 1 ≤ c.length ∧ c.length ≤ 3) ∧ (∀ x ∈ a, -1 ≤ x ∧ x < (a.length : Int)) ∧ (∀ x ∈ b, -1 ≤ x ∧ x < (a.length : Int)) ∧ (∀ x ∈ c, -1 ≤ x ∧ x < (a.length : Int)) := by
  unfold hv
  simp only [Bool.and_eq_true, decide_eq_true_eq, List.all_eq_true, okp_iff]
theorem all_drop_cons (p : Int → Bool) (l : List Int) (n : Nat) (h : n < l.length) : (l.drop n).all p = (p (rd l (n : Int)) && (l.drop (n + 1)).all p) := by
  rw [drop_rd l n h, List.all_cons]
theorem all_drop_nil (p : Int → Bool) (l : List Int) (n : Nat) (h : l.length ≤ n) : (l.drop n).all p = true := by
  rw [List.drop_eq_nil_of_le h, List.all_nil]
/-- A cell of a valid heap. -/
def cellM (a b c : List Int) (x : Int) : Bool := hv a b c && decide (0 ≤ x ∧ x < (a.length : Int))
theorem cellM_iff {a b c : List Int} {x : Int} : cellM a b c x = true ↔ hv a b c = true ∧ 0 ≤ x ∧ x < (a.length : Int) := by
  unfold cellM; simp
/-- How many are not -1. -/
def cnt (l : List Int) : Nat := l.countP (fun x => decide (x ≠ -1))
def cpM (a b c : List Int) : Int := if hv a b c = true then ((cnt (a ++ b ++ c) : Nat) : Int) else 0
theorem cnt_drop (l : List Int) (n : Nat) (h : n < l.length) : cnt (l.drop n) = cnt (l.drop (n + 1)) + (if rd l (n : Int) = -1 then 0 else 1) := by
  unfold cnt
  rw [drop_rd l n h, List.countP_cons]
  by_cases h : rd l (n : Int) = -1 <;> simp [h]
theorem cnt_nil (l : List Int) (n : Nat) (h : l.length ≤ n) : cnt (l.drop n) = 0 := by rw [List.drop_eq_nil_of_le h]; rfl
theorem cnt_le (l : List Int) : cnt l ≤ l.length := List.countP_le_length
/-- How many numbers are negative. -/
def negs : List Int → Nat
  | [] => 0
  | x :: l => (if x < 0 then 1 else 0) + negs l
theorem negs_rep (n : Nat) : negs (List.replicate n (-1)) = n := by
  induction n with
  | zero => rfl
  | succ n ih => rw [List.replicate_succ, negs, ih, if_pos (by omega)]; omega
theorem negs_set : ∀ (l : List Int) (i : Nat) (v : Int), i < l.length → l.getD i 0 < 0 → 0 ≤ v → negs (l.set i v) + 1 = negs l
  | [], i, v, h, _, _ => absurd h (by simp)
  | x :: l, 0, v, h, h2, h3 => by
    have h2' : x < 0 := h2
    rw [List.set_cons_zero, negs, negs, if_neg (by omega), if_pos h2']; omega
  | x :: l, i + 1, v, h, h2, h3 => by
    have := negs_set l i v (by simpa using h) (by simpa using h2) h3
    rw [List.set_cons_succ, negs, negs]; omega
/-- A pointer is met: the cells' distances, the cells met so far. -/
def bm (s : List Int × List Int) (p far : Int) : List Int × List Int := if p ≠ -1 ∧ rd s.1 p < 0 then (s.1.set p.toNat far, s.2 ++ [p]) else s
def bstep (a b : List Int) (s : List Int × List Int) (i : Int) : List Int × List Int :=
  bm (bm s (rd a (rd s.2 i)) (rd s.1 (rd s.2 i) + 1)) (rd b (rd s.2 i)) (rd s.1 (rd s.2 i) + 1)
def broots (c : List Int) (s : List Int × List Int) : List Int × List Int := c.foldl (fun s p => bm s p 1) s
def bloop (a b : List Int) : Nat → Nat → List Int × List Int → List Int × List Int
  | 0, _, s => s
  | m + 1, i, s => if i < s.2.length then bloop a b m (i + 1) (bstep a b s (i : Int)) else s
def bstart (n : Nat) : List Int × List Int := (List.replicate n (-1), [])
/-- The distances of all cells from some cells, or -1. -/
def distM (a b c : List Int) : List Int := (bloop a b (a.length + 1) 0 (broots c (bstart a.length))).1
structure Binv (n : Nat) (s : List Int × List Int) : Prop where
  len : s.1.length = n
  op : ∀ x ∈ s.2, 0 ≤ x ∧ x < (n : Int) ∧ 1 ≤ rd s.1 x
  val : ∀ x : Int, 0 ≤ x → x < (n : Int) → rd s.1 x = -1 ∨ (1 ≤ rd s.1 x ∧ rd s.1 x ≤ (s.2.length : Int))
  cnt : s.2.length + negs s.1 = n
theorem Binv.le {n : Nat} {s : List Int × List Int} (h : Binv n s) : s.2.length ≤ n := by have := h.cnt; omega
theorem rd_rep (n : Nat) (v x : Int) (h0 : 0 ≤ x) (h : x < (n : Int)) : rd (List.replicate n v) x = v := by
  unfold rd; rw [List.getD_eq_getElem?_getD, List.getElem?_replicate, if_pos (by omega)]; rfl
theorem bstart_inv (n : Nat) : Binv n (bstart n) := by
  refine ⟨by simp [bstart], fun x hx => absurd hx (by simp [bstart]), fun x h0 h1 => Or.inl ?_, by simp [bstart, negs_rep]⟩
  exact rd_rep n (-1) x h0 h1
theorem bm_inv {n : Nat} {s : List Int × List Int} (h : Binv n s) {p far : Int} (hp : p = -1 ∨ (0 ≤ p ∧ p < (n : Int))) (h1 : 1 ≤ far) (h2 : far ≤ (s.2.length : Int) + 1) : Binv n (bm s p far) := by
  unfold bm
  by_cases c : p ≠ -1 ∧ rd s.1 p < 0
  · rw [if_pos c]
    obtain ⟨hp0, hp1⟩ : 0 ≤ p ∧ p < (n : Int) := hp.resolve_left c.1
    have hl := h.len
    refine ⟨by simp [hl], fun x hx => ?_, fun x h0 hx => ?_, ?_⟩
    · rcases List.mem_append.1 hx with hx | hx
      · obtain ⟨a0, a1, a2⟩ := h.op x hx
        refine ⟨a0, a1, ?_⟩
        show 1 ≤ rd (s.1.set p.toNat far) x
        by_cases e : p = x
        · subst e; rw [rd_set_eq _ _ _ a0 (by omega)]; exact h1
        · rw [rd_set_ne _ _ _ _ hp0 a0 e]; exact a2
      · obtain rfl : x = p := by simpa using hx
        refine ⟨hp0, hp1, ?_⟩
        show 1 ≤ rd (s.1.set x.toNat far) x
        rw [rd_set_eq _ _ _ hp0 (by omega)]; exact h1
    · show rd (s.1.set p.toNat far) x = -1 ∨ (1 ≤ rd (s.1.set p.toNat far) x ∧ rd (s.1.set p.toNat far) x ≤ ((s.2 ++ [p]).length : Int))
      have el : ((s.2 ++ [p]).length : Int) = (s.2.length : Int) + 1 := by simp
      rw [el]
      by_cases e : p = x
      · subst e; rw [rd_set_eq _ _ _ h0 (by omega)]; exact Or.inr ⟨h1, h2⟩
      · rw [rd_set_ne _ _ _ _ hp0 h0 e]
        rcases h.val x h0 hx with v | v
        · exact Or.inl v
        · exact Or.inr ⟨v.1, by omega⟩
    · show (s.2 ++ [p]).length + negs (s.1.set p.toNat far) = n
      have := negs_set s.1 p.toNat far (by omega) c.2 (by omega)
      have := h.cnt
      simp; omega
  · rw [if_neg c]; exact h
theorem bm_keep {n : Nat} {s : List Int × List Int} (h : Binv n s) {p far : Int} (hp : p = -1 ∨ (0 ≤ p ∧ p < (n : Int))) {x : Int} (h0 : 0 ≤ x) (hx : 1 ≤ rd s.1 x) : rd (bm s p far).1 x = rd s.1 x := by
  unfold bm
  by_cases c : p ≠ -1 ∧ rd s.1 p < 0
  · rw [if_pos c]
    obtain ⟨hp0, hp1⟩ : 0 ≤ p ∧ p < (n : Int) := hp.resolve_left c.1
    exact rd_set_ne _ _ _ _ hp0 h0 (fun e => by subst e; omega)
  · rw [if_neg c]
theorem bm_len (s : List Int × List Int) (p far : Int) : s.2.length ≤ (bm s p far).2.length := by unfold bm; split <;> simp
theorem bm_op (s : List Int × List Int) (p far : Int) (i : Int) (h0 : 0 ≤ i) (h : i < (s.2.length : Int)) : rd (bm s p far).2 i = rd s.2 i := by
  unfold bm
  split
  · exact rd_app _ _ _ h0 h
  · rfl
theorem okp_ptr {n : Nat} {l : List Int} (h : ∀ x ∈ l, -1 ≤ x ∧ x < (n : Int)) {i : Int} (h0 : 0 ≤ i) (h1 : i < (l.length : Int)) : rd l i = -1 ∨ (0 ≤ rd l i ∧ rd l i < (n : Int)) := by
  have := h _ (rd_mem l i h0 h1); omega
theorem bstep_inv {n : Nat} {a b : List Int} (ha : a.length = n) (hb : b.length = n) (ga : ∀ x ∈ a, -1 ≤ x ∧ x < (n : Int)) (gb : ∀ x ∈ b, -1 ≤ x ∧ x < (n : Int)) {s : List Int × List Int} (h : Binv n s) {i : Int} (h0 : 0 ≤ i) (h1 : i < (s.2.length : Int)) : Binv n (bstep a b s i) := by
  have hc := h.op _ (rd_mem s.2 i h0 h1)
  have hv : 1 ≤ rd s.1 (rd s.2 i) ∧ rd s.1 (rd s.2 i) ≤ (s.2.length : Int) := by
    rcases h.val _ hc.1 hc.2.1 with v | v
    · omega
    · exact v
  have i1 := bm_inv h (p := rd a (rd s.2 i)) (far := rd s.1 (rd s.2 i) + 1) (okp_ptr ga hc.1 (by omega)) (by omega) (by omega)
  exact bm_inv i1 (okp_ptr gb hc.1 (by omega)) (by omega) (by have := bm_len s (rd a (rd s.2 i)) (rd s.1 (rd s.2 i) + 1); omega)
theorem bstep_len (a b : List Int) (s : List Int × List Int) (i : Int) : s.2.length ≤ (bstep a b s i).2.length := Nat.le_trans (bm_len _ _ _) (bm_len _ _ _)
theorem broots_inv {n : Nat} : ∀ (c : List Int) (s : List Int × List Int), (∀ x ∈ c, -1 ≤ x ∧ x < (n : Int)) → Binv n s → Binv n (broots c s)
  | [], s, _, h => h
  | p :: c, s, hc, h => broots_inv c (bm s p 1) (fun x hx => hc x (by simp [hx])) (bm_inv h (by have := hc p (by simp); omega) (by omega) (by omega))
theorem bloop_inv {n : Nat} {a b : List Int} (ha : a.length = n) (hb : b.length = n) (ga : ∀ x ∈ a, -1 ≤ x ∧ x < (n : Int)) (gb : ∀ x ∈ b, -1 ≤ x ∧ x < (n : Int)) : ∀ (m i : Nat) (s : List Int × List Int), Binv n s → Binv n (bloop a b m i s)
  | 0, _, _, h => h
  | m + 1, i, s, h => by
    rw [bloop]
    split
    · exact bloop_inv ha hb ga gb m (i + 1) _ (bstep_inv ha hb ga gb h (by omega) (by omega))
    · exact h
theorem distM_inv {a b c : List Int} (hb : b.length = a.length) (ga : ∀ x ∈ a, -1 ≤ x ∧ x < (a.length : Int)) (gb : ∀ x ∈ b, -1 ≤ x ∧ x < (a.length : Int)) (gc : ∀ x ∈ c, -1 ≤ x ∧ x < (a.length : Int)) : Binv a.length (bloop a b (a.length + 1) 0 (broots c (bstart a.length))) :=
  bloop_inv rfl hb ga gb _ _ _ (broots_inv c _ gc (bstart_inv _))
/-- A reached cell that is no start has one before it. -/
def Bpred (n : Nat) (a b : List Int) (s : List Int × List Int) : Prop := ∀ x : Int, 0 ≤ x → x < (n : Int) → 1 < rd s.1 x → ∃ c : Int, 0 ≤ c ∧ c < (n : Int) ∧ rd s.1 c = rd s.1 x - 1 ∧ (rd a c = x ∨ rd b c = x)
theorem bm_pred {n : Nat} {a b : List Int} {s : List Int × List Int} (h : Binv n s) (g : Bpred n a b s) {p far : Int} (hp : p = -1 ∨ (0 ≤ p ∧ p < (n : Int))) (hf : far = 1 ∨ ∃ c : Int, 0 ≤ c ∧ c < (n : Int) ∧ 1 ≤ rd s.1 c ∧ rd s.1 c = far - 1 ∧ (rd a c = p ∨ rd b c = p)) : Bpred n a b (bm s p far) := by
  intro x h0 h1 h2
  have key : ∀ c : Int, 0 ≤ c → 1 ≤ rd s.1 c → rd (bm s p far).1 c = rd s.1 c := fun c c0 c1 => bm_keep h hp c0 c1
  by_cases hx : 1 ≤ rd s.1 x
  · rw [key x h0 hx] at h2
    obtain ⟨c, c0, c1, c2, c3⟩ := g x h0 h1 h2
    exact ⟨c, c0, c1, by rw [key c c0 (by omega), key x h0 hx]; exact c2, c3⟩
  · unfold bm at h2
    by_cases cc : p ≠ -1 ∧ rd s.1 p < 0
    · rw [if_pos cc] at h2
      have hl := h.len
      obtain ⟨hp0, hp1⟩ := hp.resolve_left cc.1
      have h2' : 1 < rd (s.1.set p.toNat far) x := h2
      by_cases e : p = x
      · subst e
        rw [rd_set_eq _ _ _ h0 (by omega)] at h2'
        rcases hf with rfl | ⟨c, c0, c1, c2, c3, c4⟩
        · omega
        · refine ⟨c, c0, c1, ?_, c4⟩
          rw [key c c0 c2]
          unfold bm
          rw [if_pos cc]
          show rd s.1 c = rd (s.1.set p.toNat far) p - 1
          rw [rd_set_eq _ _ _ h0 (by omega)]; exact c3
      · rw [rd_set_ne _ _ _ _ hp0 h0 e] at h2'; omega
    · rw [if_neg cc] at h2; omega
theorem bstart_pred (n : Nat) (a b : List Int) : Bpred n a b (bstart n) := by
  intro x h0 h1 h2
  have : rd (bstart n).1 x = -1 := rd_rep n (-1) x h0 h1
  omega
theorem broots_pred {n : Nat} {a b : List Int} : ∀ (c : List Int) (s : List Int × List Int), (∀ x ∈ c, -1 ≤ x ∧ x < (n : Int)) → Binv n s → Bpred n a b s → Bpred n a b (broots c s)
  | [], s, _, _, g => g
  | p :: c, s, hc, h, g => broots_pred c (bm s p 1) (fun x hx => hc x (by simp [hx])) (bm_inv h (by have := hc p (by simp); omega) (by omega) (by omega)) (bm_pred h g (by have := hc p (by simp); omega) (Or.inl rfl))
theorem bstep_pred {n : Nat} {a b : List Int} (ha : a.length = n) (hb : b.length = n) (ga : ∀ x ∈ a, -1 ≤ x ∧ x < (n : Int)) (gb : ∀ x ∈ b, -1 ≤ x ∧ x < (n : Int)) {s : List Int × List Int} (h : Binv n s) (g : Bpred n a b s) {i : Int} (h0 : 0 ≤ i) (h1 : i < (s.2.length : Int)) : Bpred n a b (bstep a b s i) := by
  have hc := h.op _ (rd_mem s.2 i h0 h1)
  have hv : 1 ≤ rd s.1 (rd s.2 i) ∧ rd s.1 (rd s.2 i) ≤ (s.2.length : Int) := by
    rcases h.val _ hc.1 hc.2.1 with v | v
    · omega
    · exact v
  have pa := okp_ptr ga hc.1 (by omega)
  have pb := okp_ptr gb hc.1 (by omega)
  have i1 := bm_inv h (p := rd a (rd s.2 i)) (far := rd s.1 (rd s.2 i) + 1) pa (by omega) (by omega)
  have k1 := bm_keep h (p := rd a (rd s.2 i)) (far := rd s.1 (rd s.2 i) + 1) pa hc.1 hc.2.2
  have g1 := bm_pred h g (p := rd a (rd s.2 i)) (far := rd s.1 (rd s.2 i) + 1) pa (Or.inr ⟨rd s.2 i, hc.1, hc.2.1, hc.2.2, by omega, Or.inl rfl⟩)
  exact bm_pred i1 g1 pb (Or.inr ⟨rd s.2 i, hc.1, hc.2.1, by omega, by omega, Or.inr rfl⟩)
theorem bloop_pred {n : Nat} {a b : List Int} (ha : a.length = n) (hb : b.length = n) (ga : ∀ x ∈ a, -1 ≤ x ∧ x < (n : Int)) (gb : ∀ x ∈ b, -1 ≤ x ∧ x < (n : Int)) : ∀ (m i : Nat) (s : List Int × List Int), Binv n s → Bpred n a b s → Bpred n a b (bloop a b m i s)
  | 0, _, _, _, g => g
  | m + 1, i, s, h, g => by
    rw [bloop]
    split
    · exact bloop_pred ha hb ga gb m (i + 1) _ (bstep_inv ha hb ga gb h (by omega) (by omega)) (bstep_pred ha hb ga gb h g (by omega) (by omega))
    · exact g
theorem distM_pred {a b c : List Int} (hb : b.length = a.length) (ga : ∀ x ∈ a, -1 ≤ x ∧ x < (a.length : Int)) (gb : ∀ x ∈ b, -1 ≤ x ∧ x < (a.length : Int)) (gc : ∀ x ∈ c, -1 ≤ x ∧ x < (a.length : Int)) {x : Int} (h0 : 0 ≤ x) (h1 : x < (a.length : Int)) (h2 : 1 < rd (distM a b c) x) : ∃ y : Int, 0 ≤ y ∧ y < (a.length : Int) ∧ rd (distM a b c) y = rd (distM a b c) x - 1 ∧ (rd a y = x ∨ rd b y = x) :=
  bloop_pred rfl hb ga gb _ _ _ (broots_inv c _ gc (bstart_inv _)) (broots_pred c _ gc (bstart_inv _) (bstart_pred _ a b)) x h0 h1 h2
/-- What a valid heap gives for the distances. -/
theorem hv_a {a b c : List Int} (h : hv a b c = true) : ∀ x ∈ a, -1 ≤ x ∧ x < (a.length : Int) := (hv_iff.1 h).2.1
theorem hv_b {a b c : List Int} (h : hv a b c = true) : ∀ x ∈ b, -1 ≤ x ∧ x < (a.length : Int) := (hv_iff.1 h).2.2.1
theorem hv_c {a b c : List Int} (h : hv a b c = true) : ∀ x ∈ c, -1 ≤ x ∧ x < (a.length : Int) := (hv_iff.1 h).2.2.2
theorem two_ok {n : Nat} {x y : Int} (hx : -1 ≤ x ∧ x < (n : Int)) (hy : -1 ≤ y ∧ y < (n : Int)) : ∀ z ∈ [x, y], -1 ≤ z ∧ z < (n : Int) := by
  intro z hz
  rcases List.mem_cons.1 hz with rfl | hz
  · exact hx
  · obtain rfl : z = y := by simpa using hz
    exact hy
/-- The distance of a cell: 0 where there is none. -/
def hcM (a b c : List Int) (x : Int) : Bool := cellM a b c x && decide (rd (distM a b [rd a x, rd b x]) x > 0)
def doM (a b c : List Int) (x : Int) : Int × Bool := if cellM a b c x = true then (if rd (distM a b c) x < 0 then (0, false) else (rd (distM a b c) x, true)) else (0, false)
theorem distM_len {a b c : List Int} (hb : b.length = a.length) (ga : ∀ x ∈ a, -1 ≤ x ∧ x < (a.length : Int)) (gb : ∀ x ∈ b, -1 ≤ x ∧ x < (a.length : Int)) (gc : ∀ x ∈ c, -1 ≤ x ∧ x < (a.length : Int)) : (distM a b c).length = a.length := (distM_inv hb ga gb gc).len
theorem distM_val {a b c : List Int} (hb : b.length = a.length) (ga : ∀ x ∈ a, -1 ≤ x ∧ x < (a.length : Int)) (gb : ∀ x ∈ b, -1 ≤ x ∧ x < (a.length : Int)) (gc : ∀ x ∈ c, -1 ≤ x ∧ x < (a.length : Int)) {x : Int} (h0 : 0 ≤ x) (h1 : x < (a.length : Int)) : rd (distM a b c) x = -1 ∨ 1 ≤ rd (distM a b c) x := by
  rcases (distM_inv hb ga gb gc).val x h0 h1 with h | h
  · exact Or.inl h
  · exact Or.inr h.1
/-- The distances where 0 says that there is none. -/
def zd (l : List Int) : List Int := l.map (fun x => if x < 0 then 0 else x)
theorem zd_len (l : List Int) : (zd l).length = l.length := by unfold zd; simp
theorem zd_rd (l : List Int) (x : Int) (h0 : 0 ≤ x) (h : x < (l.length : Int)) : rd (zd l) x = if rd l x < 0 then 0 else rd l x := by
  obtain ⟨n, rfl⟩ : ∃ n : Nat, x = (n : Int) := ⟨x.toNat, by omega⟩
  rw [rd_nat _ n (by rw [zd_len]; omega), rd_nat l n (by omega)]; unfold zd; simp
theorem zd_rep (n : Nat) : zd (List.replicate n (-1)) = List.replicate n 0 := by unfold zd; simp
theorem meetOut_bm {n : Nat} {s : List Int × List Int} (h : Binv n s) {p far : Int} (hp : p = -1 ∨ (0 ≤ p ∧ p < (n : Int))) (h1 : 1 ≤ far) : meetOut (zd s.1) p far = zd (bm s p far).1 ∧ meetOpen (zd s.1) s.2 p = (bm s p far).2 := by
  unfold meetOut meetOpen bm
  by_cases c1 : p = -1
  · rw [if_neg (by simp [c1]), if_neg (by simp [c1]), if_neg (by simp [c1])]; exact ⟨rfl, rfl⟩
  · obtain ⟨hp0, hp1⟩ := hp.resolve_left c1
    have hl := h.len
    have hz := zd_rd s.1 p hp0 (by omega)
    by_cases c2 : rd s.1 p < 0
    · rw [if_pos c2] at hz
      rw [if_pos (show p ≠ -1 ∧ rd (zd s.1) p = 0 from ⟨c1, hz⟩), if_pos (show p ≠ -1 ∧ rd (zd s.1) p = 0 from ⟨c1, hz⟩), if_pos (show p ≠ -1 ∧ rd s.1 p < 0 from ⟨c1, c2⟩)]
      refine ⟨?_, rfl⟩
      unfold zd
      rw [List.map_set, if_neg (by omega)]
    · rw [if_neg c2] at hz
      have hv := h.val p hp0 hp1
      have hn : ¬ (p ≠ -1 ∧ rd (zd s.1) p = 0) := by rw [hz]; intro hh; omega
      rw [if_neg hn, if_neg hn, if_neg (show ¬ (p ≠ -1 ∧ rd s.1 p < 0) from fun hh => c2 hh.2)]; exact ⟨rfl, rfl⟩
theorem meetOk_iff {n : Nat} {p : Int} (h : p = -1 ∨ (0 ≤ p ∧ p < (n : Int))) : meetOk n p = true := by unfold meetOk; exact decide_eq_true h
theorem implD_l0 (n : Nat) (hn : n ≤ 8) (a b r : List Int) (gr : ∀ x ∈ r, -1 ≤ x ∧ x < (n : Int)) (hr : r.length ≤ 1000) : ∀ (d i k : Nat) (s : List Int × List Int), Binv n s → i ≤ r.length → r.length - i = d →
    impl_distances.l0 (k + d + 1) (i : Int) (zd s.1) s.2 a b r = impl_distances.l1 k 0 (zd (broots (r.drop i) s).1) (broots (r.drop i) s).2 a b r := by
  intro d
  induction d with
  | zero =>
    intro i k s h hi hd
    rw [impl_distances.l0, if_neg (by omega), List.drop_eq_nil_of_le (by omega)]
    rfl
  | succ d ih =>
    intro i k s h hi hd
    have hlt : i < r.length := by omega
    have hp := okp_ptr gr (i := (i : Int)) (by omega) (by omega)
    have hl := h.len
    have hle := h.le
    have hm := meetOut_bm h hp (far := 1) (by omega)
    rw [show k + (d + 1) + 1 = (k + d + 1) + 1 from by omega, impl_distances.l0, if_pos (by omega), if_pos (by omega), if_pos (by rw [zd_len, hl]; exact meetOk_iff hp), if_pos (by omega), drop_rd r i hlt, wrap_succ hlt (by omega), hm.1, hm.2]
    exact ih (i + 1) k (bm s (rd r (i : Int)) 1) (bm_inv h hp (by omega) (by omega)) (by omega) (by omega)
theorem implD_l1 (n : Nat) (hn : n ≤ 8) (a b r : List Int) (ha : a.length = n) (hb : b.length = n) (ga : ∀ x ∈ a, -1 ≤ x ∧ x < (n : Int)) (gb : ∀ x ∈ b, -1 ≤ x ∧ x < (n : Int)) : ∀ (d i k : Nat) (s : List Int × List Int), Binv n s → i ≤ s.2.length → n - i = d → d < k →
    impl_distances.l1 k (i : Int) (zd s.1) s.2 a b r = some (zd (bloop a b (d + 1) i s).1) := by
  intro d
  induction d with
  | zero =>
    intro i k s h hi hd hk
    obtain ⟨k, rfl⟩ : ∃ m, k = m + 1 := ⟨k - 1, by omega⟩
    have hle := h.le
    rw [impl_distances.l1, if_neg (by omega), bloop, if_neg (by omega)]
  | succ d ih =>
    intro i k s h hi hd hk
    have hle := h.le
    have hl := h.len
    obtain ⟨k, rfl⟩ : ∃ m, k = m + 1 := ⟨k - 1, by omega⟩
    rw [bloop]
    by_cases c0 : i < s.2.length
    · have hc := h.op _ (rd_mem s.2 (i : Int) (by omega) (by omega))
      have hv : 1 ≤ rd s.1 (rd s.2 (i : Int)) ∧ rd s.1 (rd s.2 (i : Int)) ≤ (s.2.length : Int) := by
        rcases h.val _ hc.1 hc.2.1 with v | v
        · omega
        · exact v
      have hpa := okp_ptr ga hc.1 (by omega)
      have hpb := okp_ptr gb hc.1 (by omega)
      have i1 := bm_inv h (p := rd a (rd s.2 (i : Int))) (far := rd s.1 (rd s.2 (i : Int)) + 1) hpa (by omega) (by omega)
      have k1 := bm_keep h (p := rd a (rd s.2 (i : Int))) (far := rd s.1 (rd s.2 (i : Int)) + 1) hpa hc.1 (by omega)
      have l1 := bm_len s (rd a (rd s.2 (i : Int))) (rd s.1 (rd s.2 (i : Int)) + 1)
      have hw : wrap64 (rd s.1 (rd s.2 (i : Int)) + 1) = rd s.1 (rd s.2 (i : Int)) + 1 := wrap_id (by omega) (by omega)
      have hm1 := meetOut_bm h hpa (far := rd s.1 (rd s.2 (i : Int)) + 1) (by omega)
      have z0 : rd (zd s.1) (rd s.2 (i : Int)) = rd s.1 (rd s.2 (i : Int)) := by rw [zd_rd _ _ hc.1 (by omega), if_neg (by omega)]
      rw [if_pos c0, ← ih (i + 1) k (bstep a b s (i : Int)) (bstep_inv ha hb ga gb h (by omega) (by omega)) (by have := bstep_len a b s (i : Int); omega) (by omega) (by omega)]
      rw [impl_distances.l1, if_pos (by omega), if_pos (by omega), if_pos hc.1, if_pos (by omega), if_pos (by omega), if_pos (by rw [zd_len]; omega), zd_len, hl, if_pos (meetOk_iff hpa), if_pos (meetOk_iff hpb), if_pos (by omega), z0, hw, hm1.1, hm1.2]
      unfold bstep
      generalize bm s (rd a (rd s.2 (i : Int))) (rd s.1 (rd s.2 (i : Int)) + 1) = s1 at i1 k1 l1 ⊢
      have hm2 := meetOut_bm i1 hpb (far := rd s.1 (rd s.2 (i : Int)) + 1) (by omega)
      have l1n := i1.len
      have z1 : rd (zd s1.1) (rd s.2 (i : Int)) = rd s.1 (rd s.2 (i : Int)) := by rw [zd_rd _ _ hc.1 (by omega), k1, if_neg (by omega)]
      rw [z1, hw, hm2.1, hm2.2, wrap_succ c0 (by omega)]
    · rw [if_neg c0, impl_distances.l1, if_neg (by omega)]
theorem implD_tells (a b r : List Int) (ha : a.length ≤ 8) (hb : b.length = a.length) (ga : ∀ x ∈ a, -1 ≤ x ∧ x < (a.length : Int)) (gb : ∀ x ∈ b, -1 ≤ x ∧ x < (a.length : Int)) (gr : ∀ x ∈ r, -1 ≤ x ∧ x < (a.length : Int)) (hr : r.length ≤ 1000) :
    impl_distances.f a b r = some (zd (distM a b r)) := by
  unfold impl_distances.f
  rw [if_pos ⟨ha, hr⟩]
  obtain ⟨k, hk⟩ : ∃ m, 2000 = m + r.length + 1 := ⟨2000 - r.length - 1, by omega⟩
  rw [hk, ← zd_rep]
  have h0 := implD_l0 a.length ha a b r gr hr r.length 0 k (bstart a.length) (bstart_inv _) (by omega) (by omega)
  rw [List.drop_zero] at h0
  refine Eq.trans h0 ?_
  exact implD_l1 a.length ha a b r rfl hb ga gb a.length 0 k (broots r (bstart a.length)) (broots_inv r _ gr (bstart_inv _)) (by omega) (by omega) (by omega)
theorem l1Points_tells (x : Int) (n : Nat) : spec_l1Points.f x (n : Int) = some (okp n x) := by
  unfold spec_l1Points.f okp
  by_cases h : x ≥ -1
  · rw [if_pos h]; congr 1; simp; omega
  · rw [if_neg h]; congr 1; exact (decide_eq_false (fun h2 => h h2.1)).symm
theorem specHV_l1 (a b c : List Int) (n : Nat) (hl : c.length ≤ 3) : ∀ (d i k : Nat), i ≤ c.length → c.length - i = d → d < k →
    spec_HeapValid.l1 k (n : Int) (i : Int) a b c = some ((c.drop i).all (okp n)) := by
  intro d
  induction d with
  | zero =>
    intro i k hi hd hk
    obtain ⟨k, rfl⟩ : ∃ m, k = m + 1 := ⟨k - 1, by omega⟩
    rw [spec_HeapValid.l1, if_neg (by omega), all_drop_nil _ _ _ (by omega)]
  | succ d ih =>
    intro i k hi hd hk
    obtain ⟨k, rfl⟩ : ∃ m, k = m + 1 := ⟨k - 1, by omega⟩
    have hlt : i < c.length := by omega
    rw [spec_HeapValid.l1, if_pos (by omega), if_pos (by omega), l1Points_tells, all_drop_cons _ _ _ hlt, wrap_succ hlt (by omega)]
    simp only [Option.bind_some]
    cases h : okp n (rd c (i : Int)) with
    | true => rw [if_pos rfl, ih (i + 1) k (by omega) (by omega) (by omega), Bool.true_and]
    | false => rw [if_neg (by simp), Bool.false_and]
theorem specHV_l0 (a b c : List Int) (hl : c.length ≤ 3) (ha : a.length ≤ 8) (hb : b.length = a.length) : ∀ (d i k : Nat), i ≤ a.length → a.length - i = d → d + 5 < k →
    spec_HeapValid.l0 k (a.length : Int) (i : Int) a b c = some ((a.drop i).all (okp a.length) && ((b.drop i).all (okp a.length) && c.all (okp a.length))) := by
  intro d
  induction d with
  | zero =>
    intro i k hi hd hk
    obtain ⟨k, rfl⟩ : ∃ m, k = m + 1 := ⟨k - 1, by omega⟩
    rw [spec_HeapValid.l0, if_neg (by omega), all_drop_nil _ _ _ (by omega), all_drop_nil _ _ _ (by omega)]
    have := specHV_l1 a b c a.length hl c.length 0 k (by omega) (by omega) (by omega)
    simp only [List.drop_zero] at this
    rw [Bool.true_and, Bool.true_and]
    exact this
  | succ d ih =>
    intro i k hi hd hk
    obtain ⟨k, rfl⟩ : ∃ m, k = m + 1 := ⟨k - 1, by omega⟩
    have hlt : i < a.length := by omega
    have hlt2 : i < b.length := by omega
    rw [spec_HeapValid.l0, if_pos (by omega), if_pos (by omega), if_pos (by omega), l1Points_tells, all_drop_cons _ a _ hlt, all_drop_cons _ b _ hlt2]
    simp only [Option.bind_some]
    cases h : okp a.length (rd a (i : Int)) with
    | false => rw [if_neg (by simp), Bool.false_and, Bool.false_and]
    | true =>
      rw [if_pos rfl, if_pos (by omega), l1Points_tells, wrap_succ hlt (by omega)]
      simp only [Option.bind_some]
      cases h2 : okp a.length (rd b (i : Int)) with
      | false => rw [if_neg (by simp), Bool.false_and, Bool.false_and, Bool.and_false]
      | true => rw [if_pos rfl, ih (i + 1) k (by omega) (by omega) (by omega), Bool.true_and, Bool.true_and]
theorem hv_false {a b c : List Int} (h : ¬ (a.length = b.length ∧ 1 ≤ a.length ∧ a.length ≤ 8 ∧ 1 ≤ c.length ∧ c.length ≤ 3)) : hv a b c = false := by
  unfold hv; rw [decide_eq_false h, Bool.false_and]
theorem specHV_tells (a b c : List Int) (k : Nat) (hk : 40 ≤ k) : spec_HeapValid.f k a b c = some (hv a b c) := by
  unfold spec_HeapValid.f
  obtain ⟨k, rfl⟩ : ∃ m, k = m + 1 := ⟨k - 1, by omega⟩
  have hj : ∀ n : Int, spec_HeapValid.j0 (k + 1) n true a b c = some false := fun n => by rw [spec_HeapValid.j0, if_pos rfl]
  by_cases h1 : (a.length : Int) < 1
  · rw [if_pos h1, hj, hv_false (by omega)]
  rw [if_neg h1]
  by_cases h2 : (a.length : Int) > 8
  · rw [if_pos h2, hj, hv_false (by omega)]
  rw [if_neg h2]
  by_cases h3 : (b.length : Int) = (a.length : Int)
  · rw [if_pos h3]
    by_cases h4 : (c.length : Int) < 1
    · rw [if_pos h4, hj, hv_false (by omega)]
    rw [if_neg h4]
    by_cases h5 : (c.length : Int) > 3
    · rw [decide_eq_true h5, hj, hv_false (by omega)]
    rw [decide_eq_false h5, spec_HeapValid.j0, if_neg (by simp)]
    have := specHV_l0 a b c (by omega) (by omega) (by omega) a.length 0 k (by omega) (by omega) (by omega)
    simp only [List.drop_zero] at this
    refine this.trans ?_
    unfold hv
    rw [decide_eq_true (show a.length = b.length ∧ 1 ≤ a.length ∧ a.length ≤ 8 ∧ 1 ≤ c.length ∧ c.length ≤ 3 by omega), Bool.true_and]
  · rw [if_neg h3, hj, hv_false (by omega)]
theorem implHV_l1 (y : List (List Int)) (xs a b c : List Int) (i : Int) (h0 : -9223372036854775808 ≤ i) (h9 : i ≤ 9223372036854775806) (hl : xs.length ≤ 9223372036854775807) : ∀ (d j m : Nat), j ≤ xs.length → xs.length - j = d →
    impl_HeapValid.l1 (m + d + 1) y 3 i xs (xs.length : Int) (j : Int) a b c = if (xs.drop j).all (okp a.length) = true then impl_HeapValid.l0 m y 3 (i + 1) a b c else some false := by
  intro d
  induction d with
  | zero =>
    intro j m hj hd
    rw [impl_HeapValid.l1, if_neg (by omega), all_drop_nil _ _ _ (by omega), if_pos rfl, wrap_id (by omega) (by omega)]
  | succ d ih =>
    intro j m hj hd
    have hlt : j < xs.length := by omega
    rw [impl_HeapValid.l1, if_pos (by omega), if_pos (by omega), if_pos (by omega), all_drop_cons _ xs _ hlt, wrap_succ hlt hl]
    by_cases h1 : rd xs (j : Int) < -1
    · have : okp a.length (rd xs (j : Int)) = false := by unfold okp; exact decide_eq_false (by omega)
      rw [if_pos h1, this, Bool.false_and, if_neg (by simp)]
    · rw [if_neg h1]
      by_cases h2 : rd xs (j : Int) ≥ (a.length : Int)
      · have : okp a.length (rd xs (j : Int)) = false := by unfold okp; exact decide_eq_false (by omega)
        rw [if_pos h2, this, Bool.false_and, if_neg (by simp)]
      · have : okp a.length (rd xs (j : Int)) = true := by unfold okp; exact decide_eq_true (by omega)
        rw [if_neg h2, this, Bool.true_and]
        exact ih (j + 1) m (by omega) (by omega)
theorem implHV_l0 (a b c : List Int) (m : Nat) (hb : b.length ≤ 8) (ha : a.length ≤ 8) (hc : c.length ≤ 8) :
    impl_HeapValid.l0 (m + 1 + (c.length + 1) + 1 + (b.length + 1) + 1 + (a.length + 1) + 1) [a, b, c] 3 0 a b c = some (a.all (okp a.length) && (b.all (okp a.length) && c.all (okp a.length))) := by
  have e0 : rd_L2 [a, b, c] 0 = a := rfl
  have e1 : rd_L2 [a, b, c] 1 = b := rfl
  have e2 : rd_L2 [a, b, c] 2 = c := rfl
  rw [impl_HeapValid.l0, if_pos (by omega), if_pos (by omega), if_pos (by simp), e0]
  have s0 := implHV_l1 [a, b, c] a a b c 0 (by omega) (by omega) (by omega) a.length 0 (m + 1 + (c.length + 1) + 1 + (b.length + 1) + 1) (by omega) (by omega)
  simp only [List.drop_zero] at s0
  refine Eq.trans s0 ?_
  cases hA : a.all (okp a.length) with
  | false => rfl
  | true =>
    rw [if_pos rfl, Bool.true_and]
    rw [impl_HeapValid.l0, if_pos (by omega), if_pos (by omega), if_pos (by simp), show (0 : Int) + 1 = 1 from rfl, e1]
    have s1 := implHV_l1 [a, b, c] b a b c 1 (by omega) (by omega) (by omega) b.length 0 (m + 1 + (c.length + 1) + 1) (by omega) (by omega)
    simp only [List.drop_zero] at s1
    refine Eq.trans s1 ?_
    cases hB : b.all (okp a.length) with
    | false => rfl
    | true =>
      rw [if_pos rfl, Bool.true_and]
      rw [impl_HeapValid.l0, if_pos (by omega), if_pos (by omega), if_pos (by simp), show (1 : Int) + 1 = 2 from rfl, e2]
      have s2 := implHV_l1 [a, b, c] c a b c 2 (by omega) (by omega) (by omega) c.length 0 (m + 1) (by omega) (by omega)
      simp only [List.drop_zero] at s2
      refine Eq.trans s2 ?_
      cases hC : c.all (okp a.length) with
      | false => rfl
      | true => rw [if_pos rfl, impl_HeapValid.l0, if_neg (by omega)]
theorem implHV_tells (a b c : List Int) (k : Nat) (hk : 60 ≤ k) : impl_HeapValid.f k a b c = some (hv a b c) := by
  unfold impl_HeapValid.f
  obtain ⟨k, rfl⟩ : ∃ m, k = m + 1 := ⟨k - 1, by omega⟩
  have hj : impl_HeapValid.j0 (k + 1) true a b c = some false := by rw [impl_HeapValid.j0, if_pos rfl]
  by_cases h1 : (a.length : Int) = (b.length : Int)
  · rw [if_pos h1]
    by_cases h2 : (a.length : Int) < 1
    · rw [if_pos h2, hj, hv_false (by omega)]
    rw [if_neg h2]
    by_cases h3 : (a.length : Int) > 8
    · rw [if_pos h3, hj, hv_false (by omega)]
    rw [if_neg h3]
    by_cases h4 : (c.length : Int) < 1
    · rw [if_pos h4, hj, hv_false (by omega)]
    rw [if_neg h4]
    by_cases h5 : (c.length : Int) > 3
    · rw [decide_eq_true h5, hj, hv_false (by omega)]
    rw [decide_eq_false h5, impl_HeapValid.j0, if_neg (by simp)]
    simp only [Option.bind_some]
    obtain ⟨m, hm⟩ : ∃ m, k = m + 1 + (c.length + 1) + 1 + (b.length + 1) + 1 + (a.length + 1) + 1 := ⟨k - 1 - (c.length + 1) - 1 - (b.length + 1) - 1 - (a.length + 1) - 1, by omega⟩
    have := implHV_l0 a b c m (by omega) (by omega) (by omega)
    rw [← hm] at this
    refine Eq.trans this ?_
    unfold hv
    rw [decide_eq_true (show a.length = b.length ∧ 1 ≤ a.length ∧ a.length ≤ 8 ∧ 1 ≤ c.length ∧ c.length ≤ 3 by omega), Bool.true_and]
  · rw [if_neg h1, hj, hv_false (by omega)]
theorem has_tells (a b c : List Int) (x : Int) (k : Nat) (hk : 60 ≤ k) : impl_has.f k a b c x = some (cellM a b c x) := by
  unfold impl_has.f cellM
  rw [implHV_tells a b c k hk]
  simp only [Option.bind_some]
  cases h : hv a b c with
  | false => rw [if_neg (by simp), Bool.false_and]
  | true =>
    rw [if_pos rfl, Bool.true_and]
    by_cases h1 : x ≥ 0
    · rw [if_pos h1]; congr 1; simp; omega
    · rw [if_neg h1, decide_eq_false (by omega)]
theorem implDO_tells (a b c : List Int) (x : Int) (k : Nat) (hk : 60 ≤ k) : impl_DistanceOf.f k a b c x = some (doM a b c x) := by
  unfold impl_DistanceOf.f doM
  rw [has_tells a b c x k (by omega)]
  simp only [Option.bind_some]
  by_cases h : cellM a b c x = true
  · have hh := cellM_iff.1 h
    have hl := hv_len hh.1
    have hdl := distM_len (by omega) (hv_a hh.1) (hv_b hh.1) (hv_c hh.1)
    have hv2 := distM_val (by omega) (hv_a hh.1) (hv_b hh.1) (hv_c hh.1) hh.2.1 hh.2.2
    rw [if_pos h, if_pos h, implD_tells a b _ (by omega) (by omega) (hv_a hh.1) (hv_b hh.1) (hv_c hh.1) (by omega)]
    simp only [Option.bind_some]
    rw [if_pos (by omega), if_pos (by rw [zd_len]; omega), zd_rd _ _ hh.2.1 (by omega)]
    by_cases h2 : rd (distM a b c) x < 0
    · rw [if_pos h2, if_pos h2]; rfl
    · rw [if_neg h2, if_neg h2, decide_eq_true (by omega)]
  · rw [if_neg h, if_neg h]
theorem ccInts_l0 (a b : List Int) (he : a.length = b.length) (hl : a.length ≤ 9223372036854775807) : ∀ (d n k : Nat), n ≤ a.length → a.length - n = d → d < k →
    laws_ccInts.l0 k a b (n : Int) = some (decide (a.drop n = b.drop n)) := by
  intro d
  induction d with
  | zero =>
    intro n k hn hd hk
    obtain ⟨k, rfl⟩ : ∃ m, k = m + 1 := ⟨k - 1, by omega⟩
    rw [laws_ccInts.l0, if_neg (by omega), List.drop_eq_nil_of_le (by omega), List.drop_eq_nil_of_le (by omega)]
    simp
  | succ d ih =>
    intro n k hn hd hk
    obtain ⟨k, rfl⟩ : ∃ m, k = m + 1 := ⟨k - 1, by omega⟩
    have hlt : n < a.length := by omega
    have hlt2 : n < b.length := by omega
    rw [laws_ccInts.l0, if_pos (by omega), if_pos (by omega), if_pos (by omega), drop_rd a n hlt, drop_rd b n hlt2]
    by_cases h : rd a (n : Int) = rd b (n : Int)
    · rw [if_pos h, wrap_succ hlt hl, ih (n + 1) k (by omega) (by omega) (by omega), h]
      simp
    · rw [if_neg h]
      simp [h]
theorem ccInts_tells (a b : List Int) (k : Nat) (hl : a.length ≤ 9223372036854775807) (hk : a.length < k) : laws_ccInts.f k a b = some (decide (a = b)) := by
  unfold laws_ccInts.f
  by_cases h : a.length = b.length
  · rw [if_pos (by omega)]
    refine Eq.trans (ccInts_l0 a b h hl a.length 0 k (by omega) (by omega) hk) ?_
    simp
  · rw [if_neg (by omega)]
    have : a ≠ b := fun e => h (by rw [e])
    simp [this]
def nhM (c r : Int) : List Int × List Int × List Int × Bool := if 1 ≤ c ∧ c ≤ 8 ∧ 1 ≤ r ∧ r ≤ 3 then (List.replicate c.toNat (-1), List.replicate c.toNat (-1), List.replicate r.toNat (-1), true) else ([], [], [], false)
theorem nhM_lens (c r : Int) : (nhM c r).1.length ≤ 8 ∧ (nhM c r).2.1.length ≤ 8 ∧ (nhM c r).2.2.1.length ≤ 3 := by
  unfold nhM
  by_cases h : 1 ≤ c ∧ c ≤ 8 ∧ 1 ≤ r ∧ r ≤ 3
  · rw [if_pos h]; simp; omega
  · rw [if_neg h]; simp
theorem many_l0 (n : Nat) (hn : n ≤ 1000) : ∀ (d i k : Nat), i ≤ n → n - i = d → d < k → spec_l1Many.l0 k (n : Int) (List.replicate i (-1)) (i : Int) = some (List.replicate n (-1)) := by
  intro d
  induction d with
  | zero =>
    intro i k hi hd hk
    obtain ⟨k, rfl⟩ : ∃ m, k = m + 1 := ⟨k - 1, by omega⟩
    obtain rfl : i = n := by omega
    rw [spec_l1Many.l0, if_neg (by omega)]
  | succ d ih =>
    intro i k hi hd hk
    obtain ⟨k, rfl⟩ : ∃ m, k = m + 1 := ⟨k - 1, by omega⟩
    rw [spec_l1Many.l0, if_pos (by omega), if_pos (by simp; omega), wrap_succ (m := n) (by omega) (by omega), ← List.replicate_succ']
    exact ih (i + 1) k (by omega) (by omega) (by omega)
theorem many_tells (n k : Nat) (hn : n ≤ 1000) (hk : n < k) : spec_l1Many.f k (n : Int) = some (List.replicate n (-1)) := by
  unfold spec_l1Many.f
  exact many_l0 n hn n 0 k (by omega) (by omega) hk
theorem specNH_tells (c r : Int) (k : Nat) (hk : 20 ≤ k) : spec_NewHeap.f k c r = some (nhM c r) := by
  unfold spec_NewHeap.f
  obtain ⟨k, rfl⟩ : ∃ m, k = m + 1 := ⟨k - 1, by omega⟩
  have hj : spec_NewHeap.j0 (k + 1) c r true = some ([], [], [], false) := by rw [spec_NewHeap.j0, if_pos rfl]
  have hf : ¬ (1 ≤ c ∧ c ≤ 8 ∧ 1 ≤ r ∧ r ≤ 3) → nhM c r = ([], [], [], false) := fun h => by unfold nhM; rw [if_neg h]
  by_cases h1 : c < 1
  · rw [if_pos h1, hj, hf (by omega)]
  rw [if_neg h1]
  by_cases h2 : c > 8
  · rw [if_pos h2, hj, hf (by omega)]
  rw [if_neg h2]
  by_cases h3 : r < 1
  · rw [if_pos h3, hj, hf (by omega)]
  rw [if_neg h3]
  by_cases h4 : r > 3
  · rw [decide_eq_true h4, hj, hf (by omega)]
  obtain ⟨c, rfl⟩ : ∃ n : Nat, c = (n : Int) := ⟨c.toNat, by omega⟩
  obtain ⟨r, rfl⟩ : ∃ n : Nat, r = (n : Int) := ⟨r.toNat, by omega⟩
  rw [decide_eq_false h4, spec_NewHeap.j0, if_neg (by simp), many_tells c k (by omega) (by omega), many_tells r k (by omega) (by omega)]
  unfold nhM
  rw [if_pos (by omega)]
  rfl
def bytesOk (b : List Int) : Prop := ∀ x ∈ b, 0 ≤ x ∧ x ≤ 255
theorem tmod_nat (a b : Nat) : Int.tmod (a : Int) (b : Int) = ((a % b : Nat) : Int) := rfl
theorem tdiv_nat (a b : Nat) : Int.tdiv (a : Int) (b : Int) = ((a / b : Nat) : Int) := rfl
theorem xor_nat (a b : Nat) (ha : a < 4611686018427387904) (hb : b < 4611686018427387904) : Go.bits .xor .i64 (a : Int) (b : Int) = ((a ^^^ b : Nat) : Int) := by
  have hx : a ^^^ b < 2 ^ 62 := Nat.xor_lt_two_pow (by omega) (by omega)
  have h1 : (BitVec.ofInt 64 (a : Int)).toNat = a := by
    rw [BitVec.ofInt_natCast, BitVec.toNat_ofNat]; exact Nat.mod_eq_of_lt (by omega)
  have h2 : (BitVec.ofInt 64 (b : Int)).toNat = b := by
    rw [BitVec.ofInt_natCast, BitVec.toNat_ofNat]; exact Nat.mod_eq_of_lt (by omega)
  show IntKind.i64.wrap ((BitVec.ofInt 64 (a : Int) ^^^ BitVec.ofInt 64 (b : Int)).toNat : Int) = _
  rw [BitVec.toNat_xor, h1, h2, IntKind.wrap_i64]
  omega
theorem wn (n : Nat) (h : n ≤ 9223372036854775807) : wrap64 (n : Int) = (n : Int) := wrap_id (by omega) (by omega)
theorem byte_at {b : List Int} (hb : bytesOk b) (i : Nat) (h : i < b.length) : ∃ A : Nat, A ≤ 255 ∧ rd b (i : Int) = (A : Int) := by
  have := hb _ (rd_mem b (i : Int) (by omega) (by omega))
  exact ⟨(rd b (i : Int)).toNat, by omega, by omega⟩
theorem pick_tells {b : List Int} (hb : bytesOk b) (hl : b.length ≤ 2000) (p n k : Nat) (hp : p ≤ 100000) (h1 : 1 ≤ n) (hk : 1 ≤ k) : ∃ v : Nat, v < n ∧ spec_l13Rd_pick.f k b (p : Int) (n : Int) = some ((v : Int), ((p + 1 : Nat) : Int)) := by
  obtain ⟨k, rfl⟩ : ∃ m, k = m + 1 := ⟨k - 1, by omega⟩
  have w1 : wrap64 ((p : Int) + 1) = ((p + 1 : Nat) : Int) := by unfold wrap64; omega
  have w2 : wrap64 (((p + 1 : Nat) : Int) - 1) = (p : Int) := by unfold wrap64; omega
  unfold spec_l13Rd_pick.f
  rw [if_neg (by omega), w1, spec_l13Rd_pick.j0, w2]
  by_cases e : b.length = 0
  · refine ⟨0, by omega, ?_⟩
    rw [if_pos (by simp [e])]; rfl
  · have e' : ((b.length : Int) == 0) = false := beq_eq_false_iff_ne.mpr (by omega)
    rw [e', if_neg Bool.false_ne_true]
    by_cases c : (p : Int) < (b.length : Int)
    · obtain ⟨A, hA, eA⟩ := byte_at hb p (by omega)
      refine ⟨A % n, Nat.mod_lt _ (by omega), ?_⟩
      rw [if_pos c, if_pos (by omega), if_neg (by omega), eA, wn A (by omega), tmod_nat]
    · have i1 : p % b.length < b.length := Nat.mod_lt _ (by omega)
      have i2 : (p * 7 + 3) % b.length < b.length := Nat.mod_lt _ (by omega)
      obtain ⟨A, hA, eA⟩ := byte_at hb _ i1
      obtain ⟨B, hB, eB⟩ := byte_at hb _ i2
      have w3a : wrap64 ((p : Int) * 7) = ((p * 7 : Nat) : Int) := by rw [wrap_id (by omega) (by omega)]; omega
      have w3 : wrap64 (((p * 7 : Nat) : Int) + 3) = ((p * 7 + 3 : Nat) : Int) := by rw [wrap_id (by omega) (by omega)]; omega
      have q : p / b.length ≤ 100000 := Nat.le_trans (Nat.div_le_self _ _) hp
      obtain ⟨Q, hQ⟩ : ∃ Q, Q = p / b.length := ⟨_, rfl⟩
      rw [← hQ] at q
      have x1 : wrap64 ((A : Int) * 131) = ((A * 131 : Nat) : Int) := by rw [wrap_id (by omega) (by omega)]; omega
      have x2 : wrap64 ((B : Int) * 1117) = ((B * 1117 : Nat) : Int) := by rw [wrap_id (by omega) (by omega)]; omega
      have x3 : wrap64 ((p : Int) * 29) = ((p * 29 : Nat) : Int) := by rw [wrap_id (by omega) (by omega)]; omega
      have x4 : wrap64 ((Q : Int) * 53) = ((Q * 53 : Nat) : Int) := by rw [wrap_id (by omega) (by omega)]; omega
      have w4 : wrap64 (((A * 131 : Nat) : Int) + ((B * 1117 : Nat) : Int)) = ((A * 131 + B * 1117 : Nat) : Int) := by rw [wrap_id (by omega) (by omega)]; omega
      have w5 : wrap64 (((A * 131 + B * 1117 : Nat) : Int) + ((p * 29 : Nat) : Int)) = ((A * 131 + B * 1117 + p * 29 : Nat) : Int) := by rw [wrap_id (by omega) (by omega)]; omega
      have w6 : wrap64 (((A * 131 + B * 1117 + p * 29 : Nat) : Int) + ((Q * 53 : Nat) : Int)) = ((A * 131 + B * 1117 + p * 29 + Q * 53 : Nat) : Int) := by rw [wrap_id (by omega) (by omega)]; omega
      rw [if_neg c, if_neg (by omega), tmod_nat p b.length, w3a, w3, tmod_nat (p * 7 + 3) b.length, if_pos (by omega), if_pos (by omega), if_pos (by omega), if_pos (by omega), if_neg (by omega), eA, eB, tdiv_nat p b.length, ← hQ, wn A (by omega), wn B (by omega), wn Q (by omega), x1, x2, w4, x3, w5, x4, w6]
      have hX : A * 131 + B * 1117 + p * 29 + Q * 53 < 4611686018427387904 := by omega
      generalize A * 131 + B * 1117 + p * 29 + Q * 53 = X at hX
      have e64 : Int.tdiv (X : Int) 64 = ((X / 64 : Nat) : Int) := rfl
      rw [e64, wn (X / 64) (by omega), xor_nat X (X / 64) hX (by omega), tmod_nat]
      exact ⟨_, Nat.mod_lt _ (by omega), rfl⟩
theorem num_tells {b : List Int} (hb : bytesOk b) (hl : b.length ≤ 2000) (p k : Nat) (l : List Int) (hp : p ≤ 100000) (h1 : 1 ≤ l.length) (hk : 1 ≤ k) : ∃ v, v ∈ l ∧ spec_l13Rd_num.f k b (p : Int) l = some (v, ((p + 1 : Nat) : Int)) := by
  obtain ⟨v, hv, e⟩ := pick_tells hb hl p l.length k hp h1 hk
  refine ⟨rd l (v : Int), rd_mem l _ (by omega) (by omega), ?_⟩
  unfold spec_l13Rd_num.f
  rw [e]
  simp only [Option.bind_some]
  rw [if_pos (by omega), if_pos (by omega)]
theorem open_tells (b : List Int) : ∃ c, c.length ≤ 2000 ∧ (bytesOk b → bytesOk c) ∧ spec_l13Open.f b = some (c, ((0 : Nat) : Int)) := by
  unfold spec_l13Open.f
  by_cases h : (b.length : Int) > 2000
  · refine ⟨b.take 2000, by simp; omega, fun hb x hx => hb x (List.mem_of_mem_take hx), ?_⟩
    rw [if_pos h, if_pos (by omega)]; rfl
  · refine ⟨b, by omega, fun hb => hb, ?_⟩
    rw [if_neg h]; rfl
def okl (n : Nat) (l : List Int) : Prop := ∀ x ∈ l, -1 ≤ x ∧ x < (n : Int)
theorem okl_set {n : Nat} {l : List Int} (h : okl n l) (i : Nat) {v : Int} (hv : -1 ≤ v ∧ v < (n : Int)) : okl n (l.set i v) := by
  intro x hx
  rcases List.mem_or_eq_of_mem_set hx with hx | rfl
  · exact h x hx
  · exact hv
theorem wrap_p1 (n : Nat) (h : n ≤ 1000) : wrap64 ((n : Int) + 1) = ((n + 1 : Nat) : Int) := wrap_id (by omega) (by omega)
theorem wrap_p2 (n : Nat) (h : n ≤ 1000) : wrap64 ((n : Int) + 2) = ((n + 2 : Nat) : Int) := wrap_id (by omega) (by omega)
theorem wrap_m1 (n : Nat) (h : n ≤ 1000) : wrap64 ((n : Int) - 1) = (n : Int) - 1 := wrap_id (by omega) (by omega)
theorem wrap_m2 (n : Nat) (h : n ≤ 1000) : wrap64 ((n : Int) - 2) = (n : Int) - 2 := wrap_id (by omega) (by omega)
theorem drawl1_tells {b : List Int} (hb : bytesOk b) (hl : b.length ≤ 2000) (n : Nat) (h1 : 1 ≤ n) (hn : n ≤ 8) (x y : List Int) : ∀ (d i k p : Nat) (z : List Int), z.length ≤ 100 → i ≤ z.length → z.length - i = d → d + 2 ≤ k → p + d ≤ 90000 → okl n z →
    ∃ z' p', spec_l1Draw.l1 k (n : Int) (i : Int) b (p : Int) x y z = some (x, y, z', ((p' : Nat) : Int)) ∧ z'.length = z.length ∧ okl n z' ∧ p' ≤ p + d := by
  intro d
  induction d with
  | zero =>
    intro i k p z hz3 hi hd hk hp hz
    obtain ⟨k, rfl⟩ : ∃ m, k = m + 1 := ⟨k - 1, by omega⟩
    exact ⟨z, p, by rw [spec_l1Draw.l1, if_neg (by omega)], rfl, hz, by omega⟩
  | succ d ih =>
    intro i k p z hz3 hi hd hk hp hz
    obtain ⟨k, rfl⟩ : ∃ m, k = m + 1 := ⟨k - 1, by omega⟩
    obtain ⟨v, hv, e⟩ := pick_tells hb hl p (n + 1) k (by omega) (by omega) (by omega)
    obtain ⟨z', p', e2, l2, o2, q2⟩ := ih (i + 1) k (p + 1) (z.set i ((v : Int) - 1)) (by simp; omega) (by simp; omega) (by simp; omega) (by omega) (by omega) (okl_set hz i (by omega))
    refine ⟨z', p', ?_, by rw [l2]; simp, o2, by omega⟩
    rw [spec_l1Draw.l1, if_pos (by omega), wrap_p1 n (by omega), e]
    simp only [Option.bind_some]
    rw [if_pos (by omega), wrap_m1 v (by omega), wrap_succ (m := z.length) (by omega) (by omega), Int.toNat_natCast]
    exact e2
theorem drawl0_tells {b : List Int} (hb : bytesOk b) (hl : b.length ≤ 2000) (n : Nat) (h1 : 1 ≤ n) (hn : n ≤ 8) (z : List Int) (hzl : z.length ≤ 3) (hz : okl n z) : ∀ (d i k p : Nat) (x y : List Int), i ≤ n → n - i = d → d + 10 ≤ k → p + 2 * d ≤ 80000 → okl n x → okl n y → x.length = n → y.length = n →
    ∃ x' y' z' p', spec_l1Draw.l0 k (n : Int) (i : Int) b (p : Int) x y z = some (x', y', z', ((p' : Nat) : Int)) ∧ (x'.length = n ∧ y'.length = n ∧ z'.length = z.length) ∧ (okl n x' ∧ okl n y' ∧ okl n z') ∧ p' ≤ p + 2 * d + 3 := by
  intro d
  induction d with
  | zero =>
    intro i k p x y hi hd hk hp hx hy lx ly
    obtain ⟨k, rfl⟩ : ∃ m, k = m + 1 := ⟨k - 1, by omega⟩
    obtain ⟨z', p', e2, l2, o2, q2⟩ := drawl1_tells hb hl n h1 hn x y z.length 0 k p z (by omega) (by omega) (by omega) (by omega) (by omega) hz
    exact ⟨x, y, z', p', by rw [spec_l1Draw.l0, if_neg (by omega)]; exact e2, ⟨lx, ly, l2⟩, ⟨hx, hy, o2⟩, by omega⟩
  | succ d ih =>
    intro i k p x y hi hd hk hp hx hy lx ly
    obtain ⟨k, rfl⟩ : ∃ m, k = m + 1 := ⟨k - 1, by omega⟩
    obtain ⟨v, hv, e⟩ := pick_tells hb hl p (n + 2) k (by omega) (by omega) (by omega)
    obtain ⟨u, hu, f⟩ := pick_tells hb hl (p + 1) (n + 2) k (by omega) (by omega) (by omega)
    have r1 : rd (x.set i ((v : Int) - 1)) (i : Int) = (v : Int) - 1 := by
      have := rd_set_eq x (i : Int) ((v : Int) - 1) (by omega) (by omega)
      rwa [Int.toNat_natCast] at this
    have r2 : rd (y.set i ((u : Int) - 2)) (i : Int) = (u : Int) - 2 := by
      have := rd_set_eq y (i : Int) ((u : Int) - 2) (by omega) (by omega)
      rwa [Int.toNat_natCast] at this
    rw [spec_l1Draw.l0, if_pos (by omega), wrap_p2 n (by omega), e]
    simp only [Option.bind_some]
    rw [if_pos (by omega), if_pos (by omega), f]
    simp only [Option.bind_some]
    rw [if_pos (by omega), wrap_m1 v (by omega), wrap_m2 u (by omega), wrap_succ (m := n) (by omega) (by omega), Int.toNat_natCast]
    simp only [r1, r2]
    have go : ∀ (x2 y2 : List Int), okl n x2 → okl n y2 → x2.length = n → y2.length = n → ∃ x' y' z' p', spec_l1Draw.l0 k (n : Int) ((i + 1 : Nat) : Int) b ((p + 1 + 1 : Nat) : Int) x2 y2 z = some (x', y', z', ((p' : Nat) : Int)) ∧ (x'.length = n ∧ y'.length = n ∧ z'.length = z.length) ∧ (okl n x' ∧ okl n y' ∧ okl n z') ∧ p' ≤ p + 2 * (d + 1) + 3 := by
      intro x2 y2 a1 a2 a3 a4
      obtain ⟨x', y', z', p', g1, g2, g3, g4⟩ := ih (i + 1) k (p + 1 + 1) x2 y2 (by omega) (by omega) (by omega) (by omega) a1 a2 a3 a4
      exact ⟨x', y', z', p', g1, g2, g3, by omega⟩
    by_cases c1 : (v : Int) - 1 ≥ (n : Int)
    · have ox : okl n ((x.set i ((v : Int) - 1)).set i (-1)) := by rw [List.set_set]; exact okl_set hx i (by omega)
      rw [if_pos c1]
      by_cases c2 : (u : Int) - 2 < -1
      · have oy : okl n ((y.set i ((u : Int) - 2)).set i (-1)) := by rw [List.set_set]; exact okl_set hy i (by omega)
        rw [if_pos c2]
        exact go _ _ ox oy (by simp [lx]) (by simp [ly])
      · rw [if_neg c2]
        exact go _ _ ox (okl_set hy i (by omega)) (by simp [lx]) (by simp [ly])
    · rw [if_neg c1]
      by_cases c2 : (u : Int) - 2 < -1
      · have oy : okl n ((y.set i ((u : Int) - 2)).set i (-1)) := by rw [List.set_set]; exact okl_set hy i (by omega)
        rw [if_pos c2]
        exact go _ _ (okl_set hx i (by omega)) oy (by simp [lx]) (by simp [ly])
      · rw [if_neg c2]
        exact go _ _ (okl_set hx i (by omega)) (okl_set hy i (by omega)) (by simp [lx]) (by simp [ly])
theorem draw_tells {b : List Int} (hb : bytesOk b) (hl : b.length ≤ 2000) (p k : Nat) (hp : p ≤ 70000) (hk : 100 ≤ k) : ∃ x y z p', spec_l1Draw.f k b (p : Int) = some (x, y, z, ((p' : Nat) : Int)) ∧ hv x y z = true ∧ p' ≤ p + 30 := by
  obtain ⟨v, hv1, e1⟩ := num_tells hb hl p k [4, 3, 5, 6, 2, 8, 1] (by omega) (by simp) (by omega)
  obtain ⟨u, hu1, e2⟩ := num_tells hb hl (p + 1) k [2, 1, 3] (by omega) (by simp) (by omega)
  have bv : 1 ≤ v ∧ v ≤ 8 := by simp at hv1; omega
  have bu : 1 ≤ u ∧ u ≤ 3 := by simp at hu1; omega
  obtain ⟨n, rfl⟩ : ∃ n : Nat, v = (n : Int) := ⟨v.toNat, by omega⟩
  obtain ⟨m, rfl⟩ : ∃ n : Nat, u = (n : Int) := ⟨u.toNat, by omega⟩
  have hr : ∀ q : Nat, okl n (List.replicate q (-1)) := by
    intro q x hx
    rw [(List.mem_replicate.1 hx).2]; omega
  obtain ⟨x, y, z, p', f1, f2, f3, f4⟩ := drawl0_tells hb hl n (by omega) (by omega) (List.replicate m (-1)) (by simp; omega) (hr m) n 0 k (p + 1 + 1) (List.replicate n (-1)) (List.replicate n (-1)) (by omega) (by omega) (by omega) (by omega) (hr n) (hr n) (by simp) (by simp)
  refine ⟨x, y, z, p', ?_, ?_, by omega⟩
  · unfold spec_l1Draw.f
    rw [e1]
    simp only [Option.bind_some]
    rw [e2]
    simp only [Option.bind_some]
    rw [specNH_tells _ _ k (by omega)]
    simp only [Option.bind_some]
    unfold nhM
    rw [if_pos (by omega), Int.toNat_natCast, Int.toNat_natCast]
    exact f1
  · rw [List.length_replicate] at f2
    refine hv_iff.2 ⟨by omega, ?_, ?_, ?_⟩
    · intro w hw; have := f3.1 w hw; omega
    · intro w hw; have := f3.2.1 w hw; omega
    · intro w hw; have := f3.2.2 w hw; omega
theorem l1Copy_tells (a b c : List Int) (ha : a.length ≤ 1048576) (hb : b.length ≤ 1048576) (hc : c.length ≤ 1048576) : spec_l1Copy.f a b c = some (a, b, c) := by
  unfold spec_l1Copy.f
  simp only [Option.bind_some, List.length_nil, List.nil_append]
  rw [if_pos (by omega), if_pos (by omega), if_pos (by omega)]
def small3 (x y z : List Int) : Prop := x.length ≤ 20 ∧ y.length ≤ 20 ∧ z.length ≤ 20
theorem wrong_tells {b : List Int} (hb : bytesOk b) (hl : b.length ≤ 2000) (p k : Nat) (hp : p ≤ 70000) (hk : 100 ≤ k) (x y z : List Int) (h1 : 1 ≤ x.length) (hx : x.length ≤ 18) (hy : y.length ≤ 18) (hz : z.length ≤ 18) : ∃ x' y' z' p', spec_l1Wrong.f k b (p : Int) x y z = some (x', y', z', ((p' : Nat) : Int)) ∧ (x'.length = x.length ∧ y'.length ≤ y.length + 1 ∧ z'.length ≤ z.length + 1) ∧ p' ≤ p + 3 := by
  obtain ⟨v, hv, e⟩ := pick_tells hb hl p 20 k (by omega) (by omega) (by omega)
  obtain ⟨q, hq⟩ : ∃ q, k = q + 1 := ⟨k - 1, by omega⟩
  have hj : ∀ s0 s1 a b c, spec_l1Wrong.j0 k s0 s1 a b c = some (a, b, c, s1) := fun s0 s1 a b c => by rw [hq]; rfl
  have e' : spec_l13Rd_pick.f k b (p : Int) 20 = some ((v : Int), ((p + 1 : Nat) : Int)) := e
  unfold spec_l1Wrong.f
  rw [l1Copy_tells x y z (by omega) (by omega) (by omega)]
  simp only [Option.bind_some]
  rw [e']
  simp only [Option.bind_some]
  by_cases c0 : (v : Int) = 0
  · obtain ⟨u, hu, f⟩ := pick_tells hb hl (p + 1) x.length k (by omega) h1 (by omega)
    obtain ⟨t, ht, g⟩ := num_tells hb hl (p + 1 + 1) k [-2, 8, 0] (by omega) (by simp) (by omega)
    refine ⟨x.set u t, y, z, p + 1 + 1 + 1, ?_, ⟨?_, ?_, ?_⟩, by omega⟩
    · rw [if_pos c0, f]
      simp only [Option.bind_some]
      rw [g]
      simp only [Option.bind_some]
      rw [if_pos (by omega), if_pos (by omega), Int.toNat_natCast, hj]
    · simp
    · omega
    · omega
  · rw [if_neg c0]
    by_cases c1 : (v : Int) = 1
    · rw [if_pos c1, if_pos (by omega), hj]
      exact ⟨_, _, _, p + 1, rfl, ⟨rfl, by simp, by omega⟩, by omega⟩
    · rw [if_neg c1]
      by_cases c2 : (v : Int) = 2
      · obtain ⟨t, ht, g⟩ := num_tells hb hl (p + 1) k [0, -1, 9] (by omega) (by simp) (by omega)
        rw [if_pos c2, g]
        simp only [Option.bind_some]
        rw [if_pos (by omega), hj]
        exact ⟨_, _, _, p + 1 + 1, rfl, ⟨rfl, by omega, by simp⟩, by omega⟩
      · rw [if_neg c2]
        by_cases c3 : (v : Int) = 3
        · rw [if_pos c3, hj]
          exact ⟨_, _, _, p + 1, rfl, ⟨rfl, by omega, by simp⟩, by omega⟩
        · rw [if_neg c3, hj]
          exact ⟨_, _, _, p + 1, rfl, ⟨rfl, by omega, by omega⟩, by omega⟩
theorem case_tells {code : List Int} (hb0 : bytesOk code) (k : Nat) (hk : 100 ≤ k) : ∃ x y z u t, spec_l1Case.f k code = some (x, y, z, u, t) ∧ small3 x y z := by
  obtain ⟨b, hl, hb1, e0⟩ := open_tells code
  have hb := hb1 hb0
  obtain ⟨x, y, z, p, e1, h1, q1⟩ := draw_tells hb hl 0 k (by omega) hk
  have hv1 := hv_len h1
  obtain ⟨x', y', z', p', e2, l2, q2⟩ := wrong_tells hb hl p k (by omega) hk x y z (by omega) (by omega) (by omega) (by omega)
  obtain ⟨u, _, e3⟩ := num_tells hb hl p' k [0, 1, 2, 3, 0, 8, -1] (by omega) (by simp) (by omega)
  obtain ⟨t, _, e4⟩ := num_tells hb hl (p' + 1) k [1, 0, 2, -1, 3, 8, -2] (by omega) (by simp) (by omega)
  refine ⟨x', y', z', u, t, ?_, by unfold small3; omega⟩
  unfold spec_l1Case.f
  rw [e0]
  simp only [Option.bind_some]
  rw [e1]
  simp only [Option.bind_some]
  rw [e2]
  simp only [Option.bind_some]
  rw [e3]
  simp only [Option.bind_some]
  rw [e4]
  rfl
theorem l2case_tells {code : List Int} (hb0 : bytesOk code) (k : Nat) (hk : 100 ≤ k) : ∃ x y z u, spec_l2Case.f k code = some (x, y, z, u) ∧ small3 x y z := by
  obtain ⟨x, y, z, u, t, e, h⟩ := case_tells hb0 k hk
  refine ⟨x, y, z, u, ?_, h⟩
  unfold spec_l2Case.f
  rw [e]; rfl
/-- The pointers of the first i met cells are met; the reached cells are the met ones. -/
structure Bcl (n : Nat) (a b : List Int) (i : Nat) (s : List Int × List Int) : Prop where
  le : i ≤ s.2.length
  ptr : ∀ j : Nat, j < i → (rd a (rd s.2 (j : Int)) = -1 ∨ 1 ≤ rd s.1 (rd a (rd s.2 (j : Int)))) ∧ (rd b (rd s.2 (j : Int)) = -1 ∨ 1 ≤ rd s.1 (rd b (rd s.2 (j : Int))))
  mem : ∀ x : Int, 0 ≤ x → x < (n : Int) → 1 ≤ rd s.1 x → x ∈ s.2
theorem bm_met {n : Nat} {s : List Int × List Int} (h : Binv n s) {p far : Int} (hp : p = -1 ∨ (0 ≤ p ∧ p < (n : Int))) (h1 : 1 ≤ far) : p = -1 ∨ 1 ≤ rd (bm s p far).1 p := by
  by_cases c1 : p = -1
  · exact Or.inl c1
  · obtain ⟨p0, p1⟩ := hp.resolve_left c1
    have hl := h.len
    refine Or.inr ?_
    unfold bm
    by_cases c2 : rd s.1 p < 0
    · rw [if_pos ⟨c1, c2⟩]
      show 1 ≤ rd (s.1.set p.toNat far) p
      rw [rd_set_eq _ _ _ p0 (by omega)]; exact h1
    · rw [if_neg (fun hh => c2 hh.2)]
      rcases h.val p p0 p1 with v | v
      · omega
      · exact v.1
theorem bm_up {n : Nat} {s : List Int × List Int} (h : Binv n s) {p far : Int} (hp : p = -1 ∨ (0 ≤ p ∧ p < (n : Int))) {q : Int} (hq : q = -1 ∨ (0 ≤ q ∧ 1 ≤ rd s.1 q)) : q = -1 ∨ 1 ≤ rd (bm s p far).1 q := by
  rcases hq with hq | ⟨q0, q1⟩
  · exact Or.inl hq
  · exact Or.inr (by rw [bm_keep h hp q0 q1]; exact q1)
theorem bm_mem {n : Nat} {s : List Int × List Int} (h : Binv n s) (hm : ∀ x : Int, 0 ≤ x → x < (n : Int) → 1 ≤ rd s.1 x → x ∈ s.2) {p far : Int} (hp : p = -1 ∨ (0 ≤ p ∧ p < (n : Int))) : ∀ x : Int, 0 ≤ x → x < (n : Int) → 1 ≤ rd (bm s p far).1 x → x ∈ (bm s p far).2 := by
  intro x x0 x1 x2
  unfold bm at x2 ⊢
  by_cases c : p ≠ -1 ∧ rd s.1 p < 0
  · rw [if_pos c] at x2 ⊢
    obtain ⟨p0, p1⟩ := hp.resolve_left c.1
    have x2' : 1 ≤ rd (s.1.set p.toNat far) x := x2
    show x ∈ s.2 ++ [p]
    by_cases e : p = x
    · subst e; simp
    · rw [rd_set_ne _ _ _ _ p0 x0 e] at x2'
      exact List.mem_append_left _ (hm x x0 x1 x2')
  · rw [if_neg c] at x2 ⊢
    exact hm x x0 x1 x2
theorem bm_cl {n : Nat} {a b : List Int} {i : Nat} {s : List Int × List Int} (h : Binv n s) (g : Bcl n a b i s) (ga : ∀ j : Nat, j < i → rd a (rd s.2 (j : Int)) = -1 ∨ (0 ≤ rd a (rd s.2 (j : Int)))) (gb : ∀ j : Nat, j < i → rd b (rd s.2 (j : Int)) = -1 ∨ (0 ≤ rd b (rd s.2 (j : Int)))) {p far : Int} (hp : p = -1 ∨ (0 ≤ p ∧ p < (n : Int))) : Bcl n a b i (bm s p far) := by
  have hle := bm_len s p far
  refine ⟨Nat.le_trans g.le hle, fun j hj => ?_, bm_mem h g.mem hp⟩
  have gle := g.le
  have e := bm_op s p far (j : Int) (by omega) (by omega)
  rw [e]
  have g1 := g.ptr j hj
  have a1 := ga j hj
  have b1 := gb j hj
  exact ⟨bm_up h hp (by have := g1.1; omega), bm_up h hp (by have := g1.2; omega)⟩
theorem ptr_ok {n : Nat} {l : List Int} (hl : l.length = n) (g : ∀ x ∈ l, -1 ≤ x ∧ x < (n : Int)) {s : List Int × List Int} (h : Binv n s) {j : Nat} (hj : j < s.2.length) : rd l (rd s.2 (j : Int)) = -1 ∨ (0 ≤ rd l (rd s.2 (j : Int)) ∧ rd l (rd s.2 (j : Int)) < (n : Int)) := by
  have hc := h.op _ (rd_mem s.2 (j : Int) (by omega) (by omega))
  exact okp_ptr g hc.1 (by omega)
theorem bstep_cl {n : Nat} {a b : List Int} (ha : a.length = n) (hb : b.length = n) (ga : ∀ x ∈ a, -1 ≤ x ∧ x < (n : Int)) (gb : ∀ x ∈ b, -1 ≤ x ∧ x < (n : Int)) {s : List Int × List Int} (h : Binv n s) {i : Nat} (g : Bcl n a b i s) (h1 : i < s.2.length) : Bcl n a b (i + 1) (bstep a b s (i : Int)) := by
  have hc := h.op _ (rd_mem s.2 (i : Int) (by omega) (by omega))
  have hv : 1 ≤ rd s.1 (rd s.2 (i : Int)) ∧ rd s.1 (rd s.2 (i : Int)) ≤ (s.2.length : Int) := by
    rcases h.val _ hc.1 hc.2.1 with v | v
    · omega
    · exact v
  have pa := ptr_ok ha ga h h1
  have pb := ptr_ok hb gb h h1
  have i1 := bm_inv h (p := rd a (rd s.2 (i : Int))) (far := rd s.1 (rd s.2 (i : Int)) + 1) pa (by omega) (by omega)
  have l1 := bm_len s (rd a (rd s.2 (i : Int))) (rd s.1 (rd s.2 (i : Int)) + 1)
  have gle := g.le
  have la : ∀ j : Nat, j < i → rd a (rd s.2 (j : Int)) = -1 ∨ 0 ≤ rd a (rd s.2 (j : Int)) := fun j hj => by have := ptr_ok ha ga h (j := j) (by omega); omega
  have lb : ∀ j : Nat, j < i → rd b (rd s.2 (j : Int)) = -1 ∨ 0 ≤ rd b (rd s.2 (j : Int)) := fun j hj => by have := ptr_ok hb gb h (j := j) (by omega); omega
  have c1 := bm_cl h g la lb (p := rd a (rd s.2 (i : Int))) (far := rd s.1 (rd s.2 (i : Int)) + 1) pa
  have m1 := bm_met h (p := rd a (rd s.2 (i : Int))) (far := rd s.1 (rd s.2 (i : Int)) + 1) pa (by omega)
  have e1 : ∀ j : Nat, j < s.2.length → rd (bm s (rd a (rd s.2 (i : Int))) (rd s.1 (rd s.2 (i : Int)) + 1)).2 (j : Int) = rd s.2 (j : Int) := fun j hj => bm_op _ _ _ _ (by omega) (by omega)
  have c2 := bm_cl i1 c1 (fun j hj => by rw [e1 j (by omega)]; exact la j hj) (fun j hj => by rw [e1 j (by omega)]; exact lb j hj) (p := rd b (rd s.2 (i : Int))) (far := rd s.1 (rd s.2 (i : Int)) + 1) pb
  have m2 := bm_met i1 (p := rd b (rd s.2 (i : Int))) (far := rd s.1 (rd s.2 (i : Int)) + 1) pb (by omega)
  have m3 := bm_up i1 (p := rd b (rd s.2 (i : Int))) (far := rd s.1 (rd s.2 (i : Int)) + 1) pb (q := rd a (rd s.2 (i : Int))) (by omega)
  have l2 := bstep_len a b s (i : Int)
  refine ⟨by omega, fun j hj => ?_, c2.mem⟩
  by_cases e : j = i
  · subst e
    have e2 : rd (bstep a b s (j : Int)).2 (j : Int) = rd s.2 (j : Int) := by
      unfold bstep
      rw [bm_op _ _ _ _ (by omega) (by omega), e1 j h1]
    rw [e2]
    exact ⟨m3, m2⟩
  · exact c2.ptr j (by omega)
theorem bloop_cl {n : Nat} {a b : List Int} (ha : a.length = n) (hb : b.length = n) (ga : ∀ x ∈ a, -1 ≤ x ∧ x < (n : Int)) (gb : ∀ x ∈ b, -1 ≤ x ∧ x < (n : Int)) : ∀ (m i : Nat) (s : List Int × List Int), Binv n s → Bcl n a b i s → n < m + i → Bcl n a b (bloop a b m i s).2.length (bloop a b m i s)
  | 0, i, s, h, g, hm => by
    have := h.le
    have := g.le
    rw [bloop]; omega
  | m + 1, i, s, h, g, hm => by
    rw [bloop]
    by_cases c : i < s.2.length
    · rw [if_pos c]
      exact bloop_cl ha hb ga gb m (i + 1) _ (bstep_inv ha hb ga gb h (by omega) (by omega)) (bstep_cl ha hb ga gb h g c) (by omega)
    · rw [if_neg c]
      have e : i = s.2.length := by have := g.le; omega
      rw [← e]; exact g
theorem bstart_cl (n : Nat) (a b : List Int) : Bcl n a b 0 (bstart n) := by
  refine ⟨by omega, fun j hj => by omega, fun x h0 h1 h2 => ?_⟩
  have : rd (bstart n).1 x = -1 := rd_rep n (-1) x h0 h1
  omega
theorem broots_cl {n : Nat} {a b : List Int} : ∀ (c : List Int) (s : List Int × List Int), (∀ x ∈ c, -1 ≤ x ∧ x < (n : Int)) → Binv n s → Bcl n a b 0 s → Bcl n a b 0 (broots c s)
  | [], s, _, _, g => g
  | p :: c, s, hc, h, g => broots_cl c (bm s p 1) (fun x hx => hc x (by simp [hx])) (bm_inv h (by have := hc p (by simp); omega) (by omega) (by omega)) (bm_cl h g (fun j hj => by omega) (fun j hj => by omega) (by have := hc p (by simp); omega))
/-- What is reached is closed. -/
theorem distM_closed {a b c : List Int} (hb : b.length = a.length) (ga : ∀ x ∈ a, -1 ≤ x ∧ x < (a.length : Int)) (gb : ∀ x ∈ b, -1 ≤ x ∧ x < (a.length : Int)) (gc : ∀ x ∈ c, -1 ≤ x ∧ x < (a.length : Int)) {x : Int} (h0 : 0 ≤ x) (h1 : x < (a.length : Int)) (h2 : 1 ≤ rd (distM a b c) x) :
    (rd a x = -1 ∨ 1 ≤ rd (distM a b c) (rd a x)) ∧ (rd b x = -1 ∨ 1 ≤ rd (distM a b c) (rd b x)) := by
  have i0 := broots_inv c _ gc (bstart_inv a.length)
  have g := bloop_cl rfl hb ga gb (a.length + 1) 0 _ i0 (broots_cl (a := a) (b := b) c _ gc (bstart_inv _) (bstart_cl _ a b)) (by omega)
  have hm := g.mem x h0 h1 h2
  obtain ⟨j, hj, e⟩ := List.getElem_of_mem hm
  have := g.ptr j hj
  rw [rd_nat _ j hj, e] at this
  exact this
theorem broots_keep {n : Nat} : ∀ (c : List Int) (s : List Int × List Int), (∀ x ∈ c, -1 ≤ x ∧ x < (n : Int)) → Binv n s → ∀ {x : Int}, 0 ≤ x → 1 ≤ rd s.1 x → rd (broots c s).1 x = rd s.1 x
  | [], s, _, _, x, _, _ => rfl
  | p :: c, s, hc, h, x, h0, h1 => by
    have pp : p = -1 ∨ (0 ≤ p ∧ p < (n : Int)) := by have := hc p (by simp); omega
    have k1 := bm_keep h pp (far := 1) h0 h1
    have := broots_keep c (bm s p 1) (fun x hx => hc x (by simp [hx])) (bm_inv h pp (by omega) (by omega)) h0 (by omega)
    exact this.trans k1
theorem bloop_keep {n : Nat} {a b : List Int} (ha : a.length = n) (hb : b.length = n) (ga : ∀ x ∈ a, -1 ≤ x ∧ x < (n : Int)) (gb : ∀ x ∈ b, -1 ≤ x ∧ x < (n : Int)) : ∀ (m i : Nat) (s : List Int × List Int), Binv n s → ∀ {x : Int}, 0 ≤ x → 1 ≤ rd s.1 x → rd (bloop a b m i s).1 x = rd s.1 x
  | 0, _, _, _, _, _, _ => rfl
  | m + 1, i, s, h, x, h0, h1 => by
    rw [bloop]
    by_cases c : i < s.2.length
    · rw [if_pos c]
      have pa := ptr_ok ha ga h c
      have pb := ptr_ok hb gb h c
      have hc := h.op _ (rd_mem s.2 (i : Int) (by omega) (by omega))
      have hv : 1 ≤ rd s.1 (rd s.2 (i : Int)) ∧ rd s.1 (rd s.2 (i : Int)) ≤ (s.2.length : Int) := by
        rcases h.val _ hc.1 hc.2.1 with v | v
        · omega
        · exact v
      have i1 := bm_inv h (p := rd a (rd s.2 (i : Int))) (far := rd s.1 (rd s.2 (i : Int)) + 1) pa (by omega) (by omega)
      have k1 := bm_keep h pa (far := rd s.1 (rd s.2 (i : Int)) + 1) h0 h1
      have k2 := bm_keep i1 pb (far := rd s.1 (rd s.2 (i : Int)) + 1) h0 (by omega)
      have k3 : rd (bstep a b s (i : Int)).1 x = rd s.1 x := k2.trans k1
      exact (bloop_keep ha hb ga gb m (i + 1) _ (bstep_inv ha hb ga gb h (by omega) (by omega)) h0 (by omega)).trans k3
    · rw [if_neg c]
theorem broots_one {n : Nat} : ∀ (c : List Int) (s : List Int × List Int), (∀ x ∈ c, -1 ≤ x ∧ x < (n : Int)) → Binv n s → ∀ p ∈ c, p = -1 ∨ 1 ≤ rd (broots c s).1 p
  | [], _, _, _, p, hp => absurd hp (by simp)
  | q :: c, s, hc, h, p, hp => by
    have pq : q = -1 ∨ (0 ≤ q ∧ q < (n : Int)) := by have := hc q (by simp); omega
    have i1 := bm_inv h pq (far := 1) (by omega) (by omega)
    rcases List.mem_cons.1 hp with e | hp
    · subst e
      rcases bm_met h pq (far := 1) (by omega) with r | r
      · exact Or.inl r
      · by_cases c1 : p = -1
        · exact Or.inl c1
        · have := broots_keep c (bm s p 1) (fun x hx => hc x (by simp [hx])) i1 (x := p) (by omega) r
          refine Or.inr ?_
          show 1 ≤ rd (broots c (bm s p 1)).1 p
          rw [this]; exact r
    · exact broots_one c (bm s q 1) (fun x hx => hc x (by simp [hx])) i1 p hp
/-- Starts are reached. -/
theorem distM_start {a b c : List Int} (hb : b.length = a.length) (ga : ∀ x ∈ a, -1 ≤ x ∧ x < (a.length : Int)) (gb : ∀ x ∈ b, -1 ≤ x ∧ x < (a.length : Int)) (gc : ∀ x ∈ c, -1 ≤ x ∧ x < (a.length : Int)) : ∀ p ∈ c, p = -1 ∨ 1 ≤ rd (distM a b c) p := by
  intro p hp
  have i0 := broots_inv c _ gc (bstart_inv a.length)
  rcases broots_one c _ gc (bstart_inv a.length) p hp with r | r
  · exact Or.inl r
  · by_cases c1 : p = -1
    · exact Or.inl c1
    · have hg := gc p hp
      exact Or.inr (by
        have := bloop_keep rfl hb ga gb (a.length + 1) 0 _ i0 (x := p) (by omega) r
        show 1 ≤ rd (bloop a b (a.length + 1) 0 (broots c (bstart a.length))).1 p
        rw [this]; exact r)
/-- x is reached from the starts c by a way of d cells. -/
def way (a b c : List Int) : Nat → Int → Prop
  | 0, _ => False
  | d + 1, y => 0 ≤ y ∧ ((d = 0 ∧ y ∈ c) ∨ ∃ x : Int, way a b c d x ∧ (rd a x = y ∨ rd b x = y))
theorem way_start {a b c : List Int} {y : Int} (h0 : 0 ≤ y) (h : y ∈ c) : way a b c 1 y := ⟨h0, Or.inl ⟨rfl, h⟩⟩
theorem way_next {a b c : List Int} {d : Nat} {x y : Int} (h : way a b c d x) (h0 : 0 ≤ y) (e : rd a x = y ∨ rd b x = y) : way a b c (d + 1) y := ⟨h0, Or.inr ⟨x, h, e⟩⟩
theorem way_pos {a b c : List Int} {d : Nat} {x : Int} (h : way a b c d x) : 1 ≤ d := by
  cases d with
  | zero => exact absurd h (fun h => h)
  | succ d => omega
theorem way_nonneg {a b c : List Int} {d : Nat} {x : Int} (h : way a b c d x) : 0 ≤ x := by
  cases d with
  | zero => exact absurd h (fun h => h)
  | succ d => exact h.1
theorem way_lt {n : Nat} {a b c : List Int} (ha : a.length = n) (hb : b.length = n) (ga : ∀ x ∈ a, -1 ≤ x ∧ x < (n : Int)) (gb : ∀ x ∈ b, -1 ≤ x ∧ x < (n : Int)) (gc : ∀ x ∈ c, -1 ≤ x ∧ x < (n : Int)) : ∀ (d : Nat) (x : Int), way a b c d x → x < (n : Int)
  | 0, _, h => absurd h (fun h => h)
  | d + 1, y, h => by
    rcases h.2 with ⟨_, e⟩ | ⟨x, hx, e⟩
    · exact (gc y e).2
    · have h0 := way_nonneg hx
      have h1 := way_lt ha hb ga gb gc d x hx
      rcases e with e | e
      · rw [← e]; exact (ga _ (rd_mem a x h0 (by omega))).2
      · rw [← e]; exact (gb _ (rd_mem b x h0 (by omega))).2
/-- What holds of a met cell and its distance when it is met. -/
def Ball (n : Nat) (P : Int → Int → Prop) (s : List Int × List Int) : Prop := ∀ x : Int, 0 ≤ x → x < (n : Int) → 1 ≤ rd s.1 x → P (rd s.1 x) x
theorem bm_ball {n : Nat} {P : Int → Int → Prop} {s : List Int × List Int} (h : Binv n s) (g : Ball n P s) {p far : Int} (hp : p = -1 ∨ (0 ≤ p ∧ p < (n : Int))) (hP : p ≠ -1 → P far p) : Ball n P (bm s p far) := by
  intro x h0 h1 h2
  unfold bm at h2 ⊢
  by_cases c : p ≠ -1 ∧ rd s.1 p < 0
  · rw [if_pos c] at h2 ⊢
    have hl := h.len
    obtain ⟨p0, p1⟩ := hp.resolve_left c.1
    have h2' : 1 ≤ rd (s.1.set p.toNat far) x := h2
    show P (rd (s.1.set p.toNat far) x) x
    by_cases e : p = x
    · subst e; rw [rd_set_eq _ _ _ h0 (by omega)]; exact hP c.1
    · rw [rd_set_ne _ _ _ _ p0 h0 e] at h2' ⊢; exact g x h0 h1 h2'
  · rw [if_neg c] at h2 ⊢; exact g x h0 h1 h2
theorem bstart_ball (n : Nat) (P : Int → Int → Prop) : Ball n P (bstart n) := by
  intro x h0 h1 h2
  have : rd (bstart n).1 x = -1 := rd_rep n (-1) x h0 h1
  omega
theorem broots_ball {n : Nat} {P : Int → Int → Prop} : ∀ (c : List Int) (s : List Int × List Int), (∀ x ∈ c, -1 ≤ x ∧ x < (n : Int)) → (∀ x ∈ c, x ≠ -1 → P 1 x) → Binv n s → Ball n P s → Ball n P (broots c s)
  | [], s, _, _, _, g => g
  | p :: c, s, hc, hP, h, g => by
    have pp : p = -1 ∨ (0 ≤ p ∧ p < (n : Int)) := by have := hc p (by simp); omega
    exact broots_ball c (bm s p 1) (fun x hx => hc x (by simp [hx])) (fun x hx => hP x (by simp [hx])) (bm_inv h pp (by omega) (by omega)) (bm_ball h g pp (hP p (by simp)))
theorem bstep_ball {n : Nat} {P : Int → Int → Prop} {a b : List Int} (ha : a.length = n) (hb : b.length = n) (ga : ∀ x ∈ a, -1 ≤ x ∧ x < (n : Int)) (gb : ∀ x ∈ b, -1 ≤ x ∧ x < (n : Int)) (hP : ∀ (d x y : Int), 1 ≤ d → 0 ≤ x → x < (n : Int) → P d x → (rd a x = y ∨ rd b x = y) → y ≠ -1 → P (d + 1) y) {s : List Int × List Int} (h : Binv n s) (g : Ball n P s) {i : Nat} (h1 : i < s.2.length) : Ball n P (bstep a b s (i : Int)) := by
  have hc := h.op _ (rd_mem s.2 (i : Int) (by omega) (by omega))
  have hv : 1 ≤ rd s.1 (rd s.2 (i : Int)) ∧ rd s.1 (rd s.2 (i : Int)) ≤ (s.2.length : Int) := by
    rcases h.val _ hc.1 hc.2.1 with v | v
    · omega
    · exact v
  have pa := ptr_ok ha ga h h1
  have pb := ptr_ok hb gb h h1
  have i1 := bm_inv h pa (far := rd s.1 (rd s.2 (i : Int)) + 1) (by omega) (by omega)
  have gq := g _ hc.1 hc.2.1 hc.2.2
  have g1 := bm_ball h g pa (fun e => hP _ _ _ hv.1 hc.1 hc.2.1 gq (Or.inl rfl) e)
  exact bm_ball i1 g1 pb (fun e => hP _ _ _ hv.1 hc.1 hc.2.1 gq (Or.inr rfl) e)
theorem bloop_ball {n : Nat} {P : Int → Int → Prop} {a b : List Int} (ha : a.length = n) (hb : b.length = n) (ga : ∀ x ∈ a, -1 ≤ x ∧ x < (n : Int)) (gb : ∀ x ∈ b, -1 ≤ x ∧ x < (n : Int)) (hP : ∀ (d x y : Int), 1 ≤ d → 0 ≤ x → x < (n : Int) → P d x → (rd a x = y ∨ rd b x = y) → y ≠ -1 → P (d + 1) y) : ∀ (m i : Nat) (s : List Int × List Int), Binv n s → Ball n P s → Ball n P (bloop a b m i s)
  | 0, _, _, _, g => g
  | m + 1, i, s, h, g => by
    rw [bloop]
    by_cases c : i < s.2.length
    · rw [if_pos c]
      exact bloop_ball ha hb ga gb hP m (i + 1) _ (bstep_inv ha hb ga gb h (by omega) (by omega)) (bstep_ball ha hb ga gb hP h g c)
    · rw [if_neg c]; exact g
theorem distM_ball {P : Int → Int → Prop} {a b c : List Int} (hb : b.length = a.length) (ga : ∀ x ∈ a, -1 ≤ x ∧ x < (a.length : Int)) (gb : ∀ x ∈ b, -1 ≤ x ∧ x < (a.length : Int)) (gc : ∀ x ∈ c, -1 ≤ x ∧ x < (a.length : Int)) (h1 : ∀ x ∈ c, x ≠ -1 → P 1 x) (hP : ∀ (d x y : Int), 1 ≤ d → 0 ≤ x → x < (a.length : Int) → P d x → (rd a x = y ∨ rd b x = y) → y ≠ -1 → P (d + 1) y) {x : Int} (x0 : 0 ≤ x) (x1 : x < (a.length : Int)) (x2 : 1 ≤ rd (distM a b c) x) : P (rd (distM a b c) x) x :=
  bloop_ball rfl hb ga gb hP _ _ _ (broots_inv c _ gc (bstart_inv _)) (broots_ball c _ gc h1 (bstart_inv _) (bstart_ball _ P)) x x0 x1 x2
/-- A cell with a distance has a way of that length. -/
theorem distM_way {a b c : List Int} (hb : b.length = a.length) (ga : ∀ x ∈ a, -1 ≤ x ∧ x < (a.length : Int)) (gb : ∀ x ∈ b, -1 ≤ x ∧ x < (a.length : Int)) (gc : ∀ x ∈ c, -1 ≤ x ∧ x < (a.length : Int)) {x : Int} (x0 : 0 ≤ x) (x1 : x < (a.length : Int)) (x2 : 1 ≤ rd (distM a b c) x) : way a b c (rd (distM a b c) x).toNat x := by
  refine distM_ball (P := fun d x => way a b c d.toNat x) hb ga gb gc (fun x hx e => way_start (by have := gc x hx; omega) hx) (fun d x y d1 y0 y1 w e e1 => ?_) x0 x1 x2
  have h0 : 0 ≤ y := by
    rcases e with e | e
    · have := ga _ (rd_mem a x y0 y1); omega
    · have := gb _ (rd_mem b x y0 (by omega)); omega
  have := way_next w h0 e
  rwa [show d.toNat + 1 = (d + 1).toNat from by omega] at this
/-- The cells met stand in the order of their distances, which differ by one at most behind place i. -/
structure Bord (a b : List Int) (i : Nat) (s : List Int × List Int) : Prop where
  up : ∀ j k : Nat, j ≤ k → k < s.2.length → rd s.1 (rd s.2 (j : Int)) ≤ rd s.1 (rd s.2 (k : Int))
  two : ∀ j k : Nat, i ≤ j → j < s.2.length → k < s.2.length → rd s.1 (rd s.2 (k : Int)) ≤ rd s.1 (rd s.2 (j : Int)) + 1
  ptr : ∀ j : Nat, j < i → (rd a (rd s.2 (j : Int)) = -1 ∨ rd s.1 (rd a (rd s.2 (j : Int))) ≤ rd s.1 (rd s.2 (j : Int)) + 1) ∧ (rd b (rd s.2 (j : Int)) = -1 ∨ rd s.1 (rd b (rd s.2 (j : Int))) ≤ rd s.1 (rd s.2 (j : Int)) + 1)
theorem bm_q {n : Nat} {s : List Int × List Int} (h : Binv n s) {p far : Int} (hp : p = -1 ∨ (0 ≤ p ∧ p < (n : Int))) {k : Nat} (hk : k < s.2.length) : rd (bm s p far).2 (k : Int) = rd s.2 (k : Int) ∧ rd (bm s p far).1 (rd (bm s p far).2 (k : Int)) = rd s.1 (rd s.2 (k : Int)) := by
  have e := bm_op s p far (k : Int) (by omega) (by omega)
  have hc := h.op _ (rd_mem s.2 (k : Int) (by omega) (by omega))
  exact ⟨e, by rw [e]; exact bm_keep h hp hc.1 hc.2.2⟩
theorem bm_new {n : Nat} {s : List Int × List Int} (h : Binv n s) {p far : Int} (hp : p = -1 ∨ (0 ≤ p ∧ p < (n : Int))) {k : Nat} (hk : k < (bm s p far).2.length) (hk2 : ¬ k < s.2.length) : rd (bm s p far).1 (rd (bm s p far).2 (k : Int)) = far := by
  unfold bm at hk ⊢
  by_cases c : p ≠ -1 ∧ rd s.1 p < 0
  · rw [if_pos c] at hk ⊢
    obtain ⟨p0, p1⟩ := hp.resolve_left c.1
    have hl := h.len
    have hk' : k < (s.2 ++ [p]).length := hk
    have e : k = s.2.length := by simp at hk'; omega
    show rd (s.1.set p.toNat far) (rd (s.2 ++ [p]) (k : Int)) = far
    have e2 : rd (s.2 ++ [p]) (k : Int) = p := by subst e; rw [rd_nat _ _ hk']; simp
    rw [e2, rd_set_eq _ _ _ p0 (by omega)]
  · rw [if_neg c] at hk; exact absurd hk hk2
/-- A step of the order: the met pointer's distance is far, and no one's is more. -/
theorem bm_ord {n : Nat} {s : List Int × List Int} (h : Binv n s) {p far : Int} (hp : p = -1 ∨ (0 ≤ p ∧ p < (n : Int))) (up : ∀ j k : Nat, j ≤ k → k < s.2.length → rd s.1 (rd s.2 (j : Int)) ≤ rd s.1 (rd s.2 (k : Int))) (hf : ∀ k : Nat, k < s.2.length → rd s.1 (rd s.2 (k : Int)) ≤ far) :
    (∀ j k : Nat, j ≤ k → k < (bm s p far).2.length → rd (bm s p far).1 (rd (bm s p far).2 (j : Int)) ≤ rd (bm s p far).1 (rd (bm s p far).2 (k : Int))) ∧ (∀ k : Nat, k < (bm s p far).2.length → rd (bm s p far).1 (rd (bm s p far).2 (k : Int)) ≤ far) := by
  have hle := bm_len s p far
  have h2 : ∀ k : Nat, k < (bm s p far).2.length → rd (bm s p far).1 (rd (bm s p far).2 (k : Int)) ≤ far := by
    intro k hk
    by_cases c : k < s.2.length
    · rw [(bm_q h hp c).2]; exact hf k c
    · rw [bm_new h hp hk c]; omega
  refine ⟨fun j k hjk hk => ?_, h2⟩
  by_cases c : k < s.2.length
  · rw [(bm_q h hp c).2, (bm_q h hp (by omega : j < s.2.length)).2]; exact up j k hjk c
  · rw [bm_new h hp hk c]; exact h2 j (by omega)
theorem met_le {n : Nat} {s : List Int × List Int} (h : Binv n s) (hm : ∀ x : Int, 0 ≤ x → x < (n : Int) → 1 ≤ rd s.1 x → x ∈ s.2) {m : Int} (hf : ∀ k : Nat, k < s.2.length → rd s.1 (rd s.2 (k : Int)) ≤ m) (h1 : 1 ≤ m) {p : Int} (hp : p = -1 ∨ (0 ≤ p ∧ p < (n : Int))) : p = -1 ∨ rd s.1 p ≤ m := by
  rcases hp with hp | ⟨p0, p1⟩
  · exact Or.inl hp
  · refine Or.inr ?_
    rcases h.val p p0 p1 with v | v
    · omega
    · obtain ⟨k, hk, e⟩ := List.getElem_of_mem (hm p p0 p1 v.1)
      have := hf k hk
      rwa [rd_nat _ k hk, e] at this
theorem bstep_ord {n : Nat} {a b : List Int} (ha : a.length = n) (hb : b.length = n) (ga : ∀ x ∈ a, -1 ≤ x ∧ x < (n : Int)) (gb : ∀ x ∈ b, -1 ≤ x ∧ x < (n : Int)) {s : List Int × List Int} (h : Binv n s) {i : Nat} (g : Bcl n a b i s) (o : Bord a b i s) (h1 : i < s.2.length) : Bord a b (i + 1) (bstep a b s (i : Int)) := by
  have hc := h.op _ (rd_mem s.2 (i : Int) (by omega) (by omega))
  have hv : 1 ≤ rd s.1 (rd s.2 (i : Int)) ∧ rd s.1 (rd s.2 (i : Int)) ≤ (s.2.length : Int) := by
    rcases h.val _ hc.1 hc.2.1 with v | v
    · omega
    · exact v
  have pa := ptr_ok ha ga h h1
  have pb := ptr_ok hb gb h h1
  have i1 := bm_inv h pa (far := rd s.1 (rd s.2 (i : Int)) + 1) (by omega) (by omega)
  have l1 := bm_len s (rd a (rd s.2 (i : Int))) (rd s.1 (rd s.2 (i : Int)) + 1)
  have i2 := bm_inv i1 pb (far := rd s.1 (rd s.2 (i : Int)) + 1) (by omega) (by omega)
  have o1 := bm_ord h pa o.up (fun k hk => o.two i k (by omega) h1 hk)
  have o2 := bm_ord i1 pb o1.1 o1.2
  have m1 := bm_mem h g.mem (far := rd s.1 (rd s.2 (i : Int)) + 1) pa
  have m2 := bm_mem i1 m1 (far := rd s.1 (rd s.2 (i : Int)) + 1) pb
  have q2 : ∀ k : Nat, k < s.2.length → rd (bstep a b s (i : Int)).2 (k : Int) = rd s.2 (k : Int) ∧ rd (bstep a b s (i : Int)).1 (rd (bstep a b s (i : Int)).2 (k : Int)) = rd s.1 (rd s.2 (k : Int)) := by
    intro k hk
    have e1 := bm_q h pa (far := rd s.1 (rd s.2 (i : Int)) + 1) hk
    have e2 := bm_q i1 pb (far := rd s.1 (rd s.2 (i : Int)) + 1) (by omega : k < (bm s (rd a (rd s.2 (i : Int))) (rd s.1 (rd s.2 (i : Int)) + 1)).2.length)
    exact ⟨e2.1.trans e1.1, e2.2.trans e1.2⟩
  have le2 := bstep_len a b s (i : Int)
  have f2 : ∀ k : Nat, k < (bstep a b s (i : Int)).2.length → rd (bstep a b s (i : Int)).1 (rd (bstep a b s (i : Int)).2 (k : Int)) ≤ rd s.1 (rd s.2 (i : Int)) + 1 := o2.2
  have u2 : ∀ j k : Nat, j ≤ k → k < (bstep a b s (i : Int)).2.length → rd (bstep a b s (i : Int)).1 (rd (bstep a b s (i : Int)).2 (j : Int)) ≤ rd (bstep a b s (i : Int)).1 (rd (bstep a b s (i : Int)).2 (k : Int)) := o2.1
  refine ⟨u2, fun j k hj hj2 hk => ?_, fun j hj => ?_⟩
  · have := f2 k hk
    have := u2 i j (by omega) hj2
    rw [(q2 i h1).2] at this
    omega
  · by_cases e : j = i
    · subst e
      rw [(q2 j h1).1]
      have e3 := (q2 j h1).2
      rw [(q2 j h1).1] at e3
      rw [e3]
      exact ⟨met_le i2 m2 f2 (by omega) pa, met_le i2 m2 f2 (by omega) pb⟩
    · have hj' : j < s.2.length := by have := g.le; omega
      have e3 := (q2 j hj').2
      rw [(q2 j hj').1] at e3
      rw [(q2 j hj').1, e3]
      have gp := g.ptr j (by omega)
      have op := o.ptr j (by omega)
      have qa := ptr_ok ha ga h hj'
      have qb := ptr_ok hb gb h hj'
      have keep : ∀ x : Int, 0 ≤ x → 1 ≤ rd s.1 x → rd (bstep a b s (i : Int)).1 x = rd s.1 x := by
        intro x x0 x1
        have k1 := bm_keep h pa (far := rd s.1 (rd s.2 (i : Int)) + 1) x0 x1
        exact (bm_keep i1 pb (far := rd s.1 (rd s.2 (i : Int)) + 1) x0 (by omega)).trans k1
      refine ⟨?_, ?_⟩
      · by_cases c : rd a (rd s.2 (j : Int)) = -1
        · exact Or.inl c
        · rw [keep _ (qa.resolve_left c).1 (gp.1.resolve_left c)]; exact op.1
      · by_cases c : rd b (rd s.2 (j : Int)) = -1
        · exact Or.inl c
        · rw [keep _ (qb.resolve_left c).1 (gp.2.resolve_left c)]; exact op.2
theorem bloop_ord {n : Nat} {a b : List Int} (ha : a.length = n) (hb : b.length = n) (ga : ∀ x ∈ a, -1 ≤ x ∧ x < (n : Int)) (gb : ∀ x ∈ b, -1 ≤ x ∧ x < (n : Int)) : ∀ (m i : Nat) (s : List Int × List Int), Binv n s → Bcl n a b i s → Bord a b i s → n < m + i → Bord a b (bloop a b m i s).2.length (bloop a b m i s)
  | 0, i, s, h, g, o, hm => by
    have := h.le
    have := g.le
    rw [bloop]; omega
  | m + 1, i, s, h, g, o, hm => by
    rw [bloop]
    by_cases c : i < s.2.length
    · rw [if_pos c]
      exact bloop_ord ha hb ga gb m (i + 1) _ (bstep_inv ha hb ga gb h (by omega) (by omega)) (bstep_cl ha hb ga gb h g c) (bstep_ord ha hb ga gb h g o c) (by omega)
    · rw [if_neg c]
      have e : i = s.2.length := by have := g.le; omega
      rw [← e]; exact o
/-- Starts are met at distance one. -/
theorem broots_val {n : Nat} (c : List Int) (hc : ∀ x ∈ c, -1 ≤ x ∧ x < (n : Int)) {x : Int} (h0 : 0 ≤ x) (h1 : x < (n : Int)) (h2 : 1 ≤ rd (broots c (bstart n)).1 x) : rd (broots c (bstart n)).1 x = 1 :=
  broots_ball (P := fun d _ => d = 1) c _ hc (fun _ _ _ => rfl) (bstart_inv n) (bstart_ball n _) x h0 h1 h2
theorem broots_ord {n : Nat} (a b c : List Int) (hc : ∀ x ∈ c, -1 ≤ x ∧ x < (n : Int)) : Bord a b 0 (broots c (bstart n)) := by
  have h := broots_inv c _ hc (bstart_inv n)
  have v : ∀ k : Nat, k < (broots c (bstart n)).2.length → rd (broots c (bstart n)).1 (rd (broots c (bstart n)).2 (k : Int)) = 1 := by
    intro k hk
    have ho := h.op _ (rd_mem _ (k : Int) (by omega) (by omega))
    exact broots_val c hc ho.1 ho.2.1 ho.2.2
  exact ⟨fun j k hjk hk => by rw [v k hk, v j (by omega)]; omega, fun j k _ hj hk => by rw [v k hk, v j hj]; omega, fun j hj => by omega⟩
/-- What a reached cell points to is no farther than one more. -/
theorem distM_next {a b c : List Int} (hb : b.length = a.length) (ga : ∀ x ∈ a, -1 ≤ x ∧ x < (a.length : Int)) (gb : ∀ x ∈ b, -1 ≤ x ∧ x < (a.length : Int)) (gc : ∀ x ∈ c, -1 ≤ x ∧ x < (a.length : Int)) {x y : Int} (h0 : 0 ≤ x) (h1 : x < (a.length : Int)) (h2 : 1 ≤ rd (distM a b c) x) (e : rd a x = y ∨ rd b x = y) (hy : y ≠ -1) : 1 ≤ rd (distM a b c) y ∧ rd (distM a b c) y ≤ rd (distM a b c) x + 1 := by
  have i0 := broots_inv c _ gc (bstart_inv a.length)
  have c0 := broots_cl (a := a) (b := b) c _ gc (bstart_inv a.length) (bstart_cl a.length a b)
  have g := bloop_cl rfl hb ga gb (a.length + 1) 0 _ i0 c0 (by omega)
  have o := bloop_ord rfl hb ga gb (a.length + 1) 0 _ i0 c0 (broots_ord a b c gc) (by omega)
  have hm := g.mem x h0 h1 h2
  obtain ⟨j, hj, ej⟩ := List.getElem_of_mem hm
  have p1 := g.ptr j hj
  have p2 := o.ptr j hj
  rw [rd_nat _ j hj, ej] at p1 p2
  rcases e with e | e
  · rw [e] at p1 p2
    exact ⟨p1.1.resolve_left hy, p2.1.resolve_left hy⟩
  · rw [e] at p1 p2
    exact ⟨p1.2.resolve_left hy, p2.2.resolve_left hy⟩
theorem distM_one {a b c : List Int} (hb : b.length = a.length) (ga : ∀ x ∈ a, -1 ≤ x ∧ x < (a.length : Int)) (gb : ∀ x ∈ b, -1 ≤ x ∧ x < (a.length : Int)) (gc : ∀ x ∈ c, -1 ≤ x ∧ x < (a.length : Int)) {p : Int} (hp : p ∈ c) (h0 : 0 ≤ p) : rd (distM a b c) p = 1 := by
  have i0 := broots_inv c _ gc (bstart_inv a.length)
  have r := (broots_one c _ gc (bstart_inv a.length) p hp).resolve_left (by omega)
  have v := broots_val c gc h0 (gc p hp).2 r
  have k := bloop_keep rfl hb ga gb (a.length + 1) 0 _ i0 h0 r
  exact k.trans v
/-- A way's cell has a distance, and none longer than the way. -/
theorem way_distM {a b c : List Int} (hb : b.length = a.length) (ga : ∀ x ∈ a, -1 ≤ x ∧ x < (a.length : Int)) (gb : ∀ x ∈ b, -1 ≤ x ∧ x < (a.length : Int)) (gc : ∀ x ∈ c, -1 ≤ x ∧ x < (a.length : Int)) : ∀ (d : Nat) (x : Int), way a b c d x → 1 ≤ rd (distM a b c) x ∧ rd (distM a b c) x ≤ (d : Int)
  | 0, _, h => absurd h (fun h => h)
  | d + 1, y, h => by
    rcases h.2 with ⟨e, hy⟩ | ⟨x, hx, e⟩
    · rw [distM_one hb ga gb gc hy h.1]; omega
    · have ih := way_distM hb ga gb gc d x hx
      have h1 := way_lt rfl hb ga gb gc d x hx
      have := distM_next hb ga gb gc (way_nonneg hx) h1 ih.1 e (by have := h.1; omega)
      omega
/-- The first cell from i on with distance v that points to x. -/
def fnd (a b d : List Int) (x v : Int) (i : Nat) : Option Int := ((List.range d.length).drop i).findSome? (fun (j : Nat) => if rd d (j : Int) = v ∧ (rd a (j : Int) = x ∨ rd b (j : Int) = x) then some (j : Int) else none)
theorem fnd_nil (a b d : List Int) (x v : Int) (i : Nat) (h : d.length ≤ i) : fnd a b d x v i = none := by
  unfold fnd; rw [List.drop_eq_nil_of_le (by simpa using h)]; rfl
theorem fnd_cons (a b d : List Int) (x v : Int) (i : Nat) (h : i < d.length) : fnd a b d x v i = if rd d (i : Int) = v ∧ (rd a (i : Int) = x ∨ rd b (i : Int) = x) then some (i : Int) else fnd a b d x v (i + 1) := by
  unfold fnd
  rw [List.drop_eq_getElem_cons (by simpa using h), List.findSome?_cons]
  simp only [List.getElem_range]
  by_cases h2 : rd d (i : Int) = v ∧ (rd a (i : Int) = x ∨ rd b (i : Int) = x)
  · rw [if_pos h2, if_pos h2]
  · rw [if_neg h2, if_neg h2]
theorem fnd_spec (a b d : List Int) (x v : Int) : ∀ (e i : Nat), d.length - i = e → ∀ j, fnd a b d x v i = some j → 0 ≤ j ∧ j < (d.length : Int) ∧ rd d j = v ∧ (rd a j = x ∨ rd b j = x) := by
  intro e
  induction e with
  | zero => intro i he j hj; rw [fnd_nil _ _ _ _ _ _ (by omega)] at hj; exact absurd hj (by simp)
  | succ e ih =>
    intro i he j hj
    rw [fnd_cons _ _ _ _ _ _ (by omega)] at hj
    by_cases h2 : rd d (i : Int) = v ∧ (rd a (i : Int) = x ∨ rd b (i : Int) = x)
    · rw [if_pos h2] at hj
      obtain rfl := Option.some.inj hj
      exact ⟨by omega, by omega, h2⟩
    · rw [if_neg h2] at hj
      exact ih (i + 1) (by omega) j hj
theorem fnd_some (a b d : List Int) (x v : Int) (c : Nat) (hc : c < d.length) (h : rd d (c : Int) = v ∧ (rd a (c : Int) = x ∨ rd b (c : Int) = x)) : ∀ (e i : Nat), c - i = e → i ≤ c → ∃ j, fnd a b d x v i = some j := by
  intro e
  induction e with
  | zero =>
    intro i he hi
    obtain rfl : i = c := by omega
    exact ⟨_, by rw [fnd_cons _ _ _ _ _ _ hc, if_pos h]⟩
  | succ e ih =>
    intro i he hi
    rw [fnd_cons _ _ _ _ _ _ (by omega)]
    by_cases h2 : rd d (i : Int) = v ∧ (rd a (i : Int) = x ∨ rd b (i : Int) = x)
    · exact ⟨_, by rw [if_pos h2]⟩
    · rw [if_neg h2]; exact ih (i + 1) (by omega) (by omega)
/-- A way to its head, whose distance is m + 1, made longer to a start. -/
def pathFrom (a b d : List Int) : Nat → List Int → List Int
  | 0, o => o
  | m + 1, o => match fnd a b d (rd o 0) ((m : Int) + 1) 0 with
    | some j => pathFrom a b d m (j :: o)
    | none => o
def pathM (a b c : List Int) (x : Int) : List Int × Bool := if cellM a b c x = true then (if rd (distM a b c) x < 0 then ([], false) else (pathFrom a b (distM a b c) ((rd (distM a b c) x).toNat - 1) [x], true)) else ([], false)
/-- What a way's head must have. -/
structure PInv (n : Nat) (d o : List Int) (m : Nat) : Prop where
  ne : 0 < o.length
  lo : 0 ≤ rd o 0
  hi : rd o 0 < (n : Int)
  dist : rd d (rd o 0) = (m : Int) + 1
theorem p_next {a b c : List Int} (hb : b.length = a.length) (ga : ∀ x ∈ a, -1 ≤ x ∧ x < (a.length : Int)) (gb : ∀ x ∈ b, -1 ≤ x ∧ x < (a.length : Int)) (gc : ∀ x ∈ c, -1 ≤ x ∧ x < (a.length : Int)) {o : List Int} {m : Nat} (h : PInv a.length (distM a b c) o (m + 1)) :
    ∃ j, fnd a b (distM a b c) (rd o 0) ((m : Int) + 1) 0 = some j ∧ PInv a.length (distM a b c) (j :: o) m ∧ (0 ≤ j ∧ j < (a.length : Int) ∧ rd (distM a b c) j = (m : Int) + 1 ∧ (rd a j = rd o 0 ∨ rd b j = rd o 0)) := by
  have hl := distM_len hb ga gb gc
  have hd := h.dist
  obtain ⟨y, y0, y1, y2, y3⟩ := distM_pred hb ga gb gc h.lo h.hi (by omega)
  obtain ⟨y, rfl⟩ : ∃ n : Nat, y = (n : Int) := ⟨y.toNat, by omega⟩
  obtain ⟨j, hj⟩ := fnd_some a b (distM a b c) (rd o 0) ((m : Int) + 1) y (by omega) ⟨by omega, y3⟩ y 0 (by omega) (by omega)
  have hs := fnd_spec a b (distM a b c) (rd o 0) ((m : Int) + 1) _ 0 rfl j hj
  exact ⟨j, hj, ⟨by simp, hs.1, by have := hs.2.1; show j < _; omega, hs.2.2.1⟩, hs.1, by omega, hs.2.2⟩
theorem pathFrom_len (a b d : List Int) : ∀ (m : Nat) (o : List Int), (pathFrom a b d m o).length ≤ o.length + m
  | 0, o => by rw [pathFrom]; omega
  | m + 1, o => by
    rw [pathFrom]
    split
    · rename_i j _
      have := pathFrom_len a b d m (j :: o)
      rw [List.length_cons] at this; omega
    · omega
theorem pathM_len (a b c : List Int) (x : Int) : (pathM a b c x).1.length ≤ 10 := by
  unfold pathM
  by_cases h : cellM a b c x = true
  · rw [if_pos h]
    have hh := cellM_iff.1 h
    have hl := hv_len hh.1
    by_cases h2 : rd (distM a b c) x < 0
    · rw [if_pos h2]; simp
    · rw [if_neg h2]
      have hi := distM_inv (by omega) (hv_a hh.1) (hv_b hh.1) (hv_c hh.1)
      have hle := hi.le
      have hv2 : rd (distM a b c) x ≤ 8 := by
        rcases hi.val x hh.2.1 hh.2.2 with v | v
        · have v' : rd (distM a b c) x = -1 := v
          omega
        · have v' : rd (distM a b c) x ≤ _ := v.2
          omega
      have := pathFrom_len a b (distM a b c) ((rd (distM a b c) x).toNat - 1) [x]
      show (pathFrom a b (distM a b c) ((rd (distM a b c) x).toNat - 1) [x]).length ≤ 10
      simp at this; omega
  · rw [if_neg h]; simp
/-- The cells from i on that point to x. -/
def srcFrom (a b : List Int) (x : Int) (i : Nat) : List Int := ((List.range a.length).drop i).filterMap (fun (j : Nat) => if rd a (j : Int) = x ∨ rd b (j : Int) = x then some (j : Int) else none)
def srcM (a b c : List Int) (x : Int) : List Int := if cellM a b c x = true then srcFrom a b x 0 else []
theorem srcFrom_nil (a b : List Int) (x : Int) (i : Nat) (h : a.length ≤ i) : srcFrom a b x i = [] := by
  unfold srcFrom; rw [List.drop_eq_nil_of_le (by simpa using h)]; rfl
theorem srcFrom_cons (a b : List Int) (x : Int) (i : Nat) (h : i < a.length) : srcFrom a b x i = (if rd a (i : Int) = x ∨ rd b (i : Int) = x then [(i : Int)] else []) ++ srcFrom a b x (i + 1) := by
  unfold srcFrom
  rw [List.drop_eq_getElem_cons (by simpa using h), List.filterMap_cons]
  simp only [List.getElem_range]
  by_cases h2 : rd a (i : Int) = x ∨ rd b (i : Int) = x
  · rw [if_pos h2, if_pos h2]; rfl
  · rw [if_neg h2, if_neg h2]; rfl
theorem srcFrom_len (a b : List Int) (x : Int) (i : Nat) : (srcFrom a b x i).length ≤ a.length := by
  unfold srcFrom
  exact Nat.le_trans (List.length_filterMap_le _ _) (by simp)
theorem srcM_len (a b c : List Int) (x : Int) : (srcM a b c x).length ≤ 8 := by
  unfold srcM
  by_cases h : cellM a b c x = true
  · rw [if_pos h]
    have := srcFrom_len a b x 0
    have := hv_len (cellM_iff.1 h).1
    omega
  · rw [if_neg h]; simp
theorem implSrc_l0 (a b c : List Int) (x : Int) (ha : a.length ≤ 8) (hb : b.length = a.length) : ∀ (d i k : Nat) (o : List Int), i ≤ a.length → a.length - i = d → d < k → o.length ≤ i →
    impl_SourcesOf.l0 k x o (a.length : Int) (i : Int) a b c = some (o ++ srcFrom a b x i) := by
  intro d
  induction d with
  | zero =>
    intro i k o hi hd hk ho
    obtain ⟨k, rfl⟩ : ∃ m, k = m + 1 := ⟨k - 1, by omega⟩
    rw [impl_SourcesOf.l0, if_neg (by omega), srcFrom_nil _ _ _ _ (by omega), List.append_nil]
  | succ d ih =>
    intro i k o hi hd hk ho
    obtain ⟨k, rfl⟩ : ∃ m, k = m + 1 := ⟨k - 1, by omega⟩
    have hlt : i < a.length := by omega
    rw [impl_SourcesOf.l0, if_pos (by omega), if_pos (by omega), if_pos (by omega), srcFrom_cons a b x i hlt, wrap_succ hlt (by omega)]
    by_cases h1 : rd a (i : Int) = x
    · rw [if_pos h1, if_pos (by omega), if_pos (Or.inl h1), ih (i + 1) k _ (by omega) (by omega) (by omega) (by simp; omega), List.append_assoc]
    · rw [if_neg h1, if_pos (by omega)]
      by_cases h2 : rd b (i : Int) = x
      · rw [if_pos h2, if_pos (by omega), if_pos (Or.inr h2), ih (i + 1) k _ (by omega) (by omega) (by omega) (by simp; omega), List.append_assoc]
      · rw [if_neg h2, if_neg (by simp [h1, h2]), ih (i + 1) k o (by omega) (by omega) (by omega) (by omega), List.nil_append]
theorem implSrc_tells (a b c : List Int) (x : Int) (k : Nat) (hk : 60 ≤ k) : impl_SourcesOf.f k a b c x = some (srcM a b c x) := by
  unfold impl_SourcesOf.f srcM
  rw [has_tells a b c x k hk]
  simp only [Option.bind_some]
  cases h : cellM a b c x with
  | false => rfl
  | true =>
    have hl := hv_len (cellM_iff.1 h).1
    rw [if_pos rfl, if_pos rfl]
    exact implSrc_l0 a b c x (by omega) (by omega) a.length 0 k [] (by omega) (by omega) (by omega) (by simp)
theorem src_find (a b d : List Int) (x v : Int) (hd : d.length = a.length) : ∀ (e i : Nat), a.length - i = e → (srcFrom a b x i).findSome? (fun y => if rd d y = v then some y else none) = fnd a b d x v i := by
  intro e
  induction e with
  | zero => intro i he; rw [srcFrom_nil _ _ _ _ (by omega), fnd_nil _ _ _ _ _ _ (by omega)]; rfl
  | succ e ih =>
    intro i he
    rw [srcFrom_cons _ _ _ _ (by omega), fnd_cons _ _ _ _ _ _ (by omega)]
    by_cases h1 : rd a (i : Int) = x ∨ rd b (i : Int) = x
    · rw [if_pos h1]
      by_cases h2 : rd d (i : Int) = v
      · rw [if_pos ⟨h2, h1⟩]
        simp [h2]
      · rw [if_neg (fun hh => h2 hh.1), ← ih (i + 1) (by omega)]
        simp [h2]
    · rw [if_neg h1, if_neg (fun hh => h1 hh.2), List.nil_append]
      exact ih (i + 1) (by omega)
theorem srcFrom_mem (a b : List Int) (x : Int) : ∀ y ∈ srcFrom a b x 0, 0 ≤ y ∧ y < (a.length : Int) := by
  intro y hy
  unfold srcFrom at hy
  rw [List.mem_filterMap] at hy
  obtain ⟨j, hj, hy⟩ := hy
  rw [List.drop_zero, List.mem_range] at hj
  split at hy
  · obtain rfl := Option.some.inj hy; omega
  · exact absurd hy (by simp)
theorem implPA_l1 (a b c d : List Int) (o L : List Int) (ha : a.length = d.length) (hl : d.length ≤ 8) (ho : 0 < o.length) (ho2 : o.length ≤ 1000) (hL : L.length ≤ 8) (hm : ∀ y ∈ L, 0 ≤ y ∧ y < (a.length : Int)) (x0 : 0 ≤ rd o 0) (x1 : rd o 0 < (a.length : Int)) (kk : Nat) (j : Int) : ∀ (e i k : Nat), L.length - i = e → (L.drop i).findSome? (fun y => if rd d y = wrap64 (rd d (rd o 0) - 1) then some y else none) = some j → e + 1 + kk ≤ k →
    ∃ k', kk ≤ k' ∧ impl_PathTo.l1 k d o L (L.length : Int) (i : Int) a b c = impl_PathTo.l0 k' d (j :: o) a b c := by
  intro e
  induction e with
  | zero => intro i k he hj hk; rw [List.drop_eq_nil_of_le (by omega)] at hj; exact absurd hj (by simp)
  | succ e ih =>
    intro i k he hj hk
    obtain ⟨k, rfl⟩ : ∃ m, k = m + 1 := ⟨k - 1, by omega⟩
    have hlt : i < L.length := by omega
    have hy := hm _ (rd_mem L (i : Int) (by omega) (by omega))
    rw [drop_rd L i hlt, List.findSome?_cons] at hj
    rw [impl_PathTo.l1, if_pos (by omega), if_pos (by omega), if_pos (by omega), if_pos hy.1, if_pos (by omega), if_pos (by omega), if_pos x0, if_pos (by omega), wrap_succ hlt (by omega)]
    by_cases h1 : rd d (rd L (i : Int)) = wrap64 (rd d (rd o 0) - 1)
    · rw [if_pos h1] at hj
      obtain rfl := Option.some.inj hj
      refine ⟨k, by omega, ?_⟩
      rw [if_pos h1]
      simp only [Option.bind_some]
      rw [if_pos (by simp; omega)]
      rfl
    · rw [if_neg h1] at hj
      obtain ⟨k', h3, h4⟩ := ih (i + 1) k (by omega) hj (by omega)
      exact ⟨k', h3, by rw [if_neg h1]; exact h4⟩
theorem fnd_zd (a b d : List Int) (x v : Int) (hv0 : 1 ≤ v) : ∀ (e i : Nat), d.length - i = e → fnd a b (zd d) x v i = fnd a b d x v i := by
  intro e
  induction e with
  | zero => intro i he; rw [fnd_nil _ _ _ _ _ _ (by rw [zd_len]; omega), fnd_nil _ _ _ _ _ _ (by omega)]
  | succ e ih =>
    intro i he
    have hz := zd_rd d (i : Int) (by omega) (by omega)
    rw [fnd_cons a b (zd d) x v i (by rw [zd_len]; omega), fnd_cons a b d x v i (by omega), ih (i + 1) (by omega)]
    have : rd (zd d) (i : Int) = v ↔ rd d (i : Int) = v := by
      rw [hz]
      by_cases h : rd d (i : Int) < 0
      · rw [if_pos h]; omega
      · rw [if_neg h]
    simp only [this]
theorem implPA_l0 {a b c : List Int} (hv0 : hv a b c = true) : ∀ (m : Nat) (o : List Int) (k : Nat), m ≤ 100 → PInv a.length (distM a b c) o m → o.length + m ≤ 900 → 20 * m + 100 ≤ k →
    impl_PathTo.l0 k (zd (distM a b c)) o a b c = some (pathFrom a b (distM a b c) m o, true) := by
  have hl := hv_len hv0
  have hdl := distM_len (by omega) (hv_a hv0) (hv_b hv0) (hv_c hv0)
  intro m
  induction m with
  | zero =>
    intro o k hm h ho hk
    obtain ⟨k, rfl⟩ : ∃ m, k = m + 1 := ⟨k - 1, by omega⟩
    have h0 := h.ne
    have h1 := h.lo
    have h2 := h.hi
    have h3 := h.dist
    rw [impl_PathTo.l0, if_pos (by omega), if_pos (by omega), if_pos (by rw [zd_len]; omega), if_neg, pathFrom]
    rw [zd_rd _ _ h1 (by omega), if_neg (by omega)]; omega
  | succ m ih =>
    intro o k hm h ho hk
    obtain ⟨k, rfl⟩ : ∃ m, k = m + 1 := ⟨k - 1, by omega⟩
    have h0 := h.ne
    have h1 := h.lo
    have h2 := h.hi
    have h3 := h.dist
    obtain ⟨j, hj, hp, _⟩ := p_next (by omega) (hv_a hv0) (hv_b hv0) (hv_c hv0) h
    have hz : rd (zd (distM a b c)) (rd o 0) = (m : Int) + 2 := by rw [zd_rd _ _ h1 (by omega), if_neg (by omega)]; omega
    have hw : wrap64 (rd (zd (distM a b c)) (rd o 0) - 1) = (m : Int) + 1 := by rw [hz]; unfold wrap64; omega
    have hs : srcM a b c (rd o 0) = srcFrom a b (rd o 0) 0 := by unfold srcM; rw [if_pos (cellM_iff.2 ⟨hv0, h1, h2⟩)]
    have hsl := srcFrom_len a b (rd o 0) 0
    rw [impl_PathTo.l0, if_pos (by omega), if_pos (by omega), if_pos (by rw [zd_len]; omega), if_pos (by omega), implSrc_tells a b c (rd o 0) k (by omega), hs, pathFrom, hj]
    simp only [Option.bind_some]
    obtain ⟨k', h5, h4⟩ := implPA_l1 a b c (zd (distM a b c)) o (srcFrom a b (rd o 0) 0) (by rw [zd_len]; omega) (by rw [zd_len]; omega) h0 (by omega) (by omega) (srcFrom_mem a b (rd o 0)) h1 h2 (20 * m + 100) j (srcFrom a b (rd o 0) 0).length 0 k (by omega) (by rw [List.drop_zero, hw, src_find a b (zd (distM a b c)) (rd o 0) ((m : Int) + 1) (by rw [zd_len]; omega) a.length 0 (by omega), fnd_zd _ _ _ _ _ (by omega) (distM a b c).length 0 (by omega)]; exact hj) (by omega)
    refine Eq.trans h4 ?_
    exact ih (j :: o) k' (by omega) hp (by rw [List.length_cons]; omega) (by omega)
theorem implPA_tells (a b c : List Int) (x : Int) (k : Nat) (hk : 2000 ≤ k) : impl_PathTo.f k a b c x = some (pathM a b c x) := by
  unfold impl_PathTo.f pathM
  rw [has_tells a b c x k (by omega)]
  simp only [Option.bind_some]
  by_cases h : cellM a b c x = true
  · have hh := cellM_iff.1 h
    have hl := hv_len hh.1
    have hi := distM_inv (by omega) (hv_a hh.1) (hv_b hh.1) (hv_c hh.1)
    have hle := hi.le
    have hdl := distM_len (by omega) (hv_a hh.1) (hv_b hh.1) (hv_c hh.1)
    have hz := zd_rd (distM a b c) x hh.2.1 (by omega)
    rw [if_pos h, if_pos h, implD_tells a b _ (by omega) (by omega) (hv_a hh.1) (hv_b hh.1) (hv_c hh.1) (by omega)]
    simp only [Option.bind_some]
    rw [if_pos hh.2.1, if_pos (by rw [zd_len]; omega)]
    by_cases h2 : rd (distM a b c) x < 0
    · rw [if_pos h2] at hz
      rw [if_pos hz, if_pos h2]
    · rw [if_neg h2] at hz
      have hv2 : 1 ≤ rd (distM a b c) x ∧ rd (distM a b c) x ≤ 8 := by
        rcases hi.val x hh.2.1 hh.2.2 with v | v
        · have v' : rd (distM a b c) x = -1 := v
          omega
        · have v' : rd (distM a b c) x ≤ _ := v.2
          exact ⟨v.1, by omega⟩
      have e : rd (distM a b c) x = (((rd (distM a b c) x).toNat - 1 : Nat) : Int) + 1 := by omega
      rw [if_neg (by omega), if_neg h2]
      exact implPA_l0 hh.1 ((rd (distM a b c) x).toNat - 1) [x] k (by omega) ⟨by simp, hh.2.1, hh.2.2, e⟩ (by simp; omega) (by omega)
  · rw [if_neg h, if_neg h]
theorem specD_l0 (n : Nat) (hn : n ≤ 8) (a b c r : List Int) (gr : ∀ x ∈ r, -1 ≤ x ∧ x < (n : Int)) (hr : r.length ≤ 1000) : ∀ (d i k : Nat) (s : List Int × List Int), Binv n s → i ≤ r.length → r.length - i = d →
    spec_l2Distances.l0 (k + d + 1) r s.1 s.2 (i : Int) a b c = spec_l2Distances.l1 k (broots (r.drop i) s).1 (broots (r.drop i) s).2 0 a b c := by
  intro d
  induction d with
  | zero =>
    intro i k s h hi hd
    rw [spec_l2Distances.l0, if_neg (by omega), List.drop_eq_nil_of_le (by omega)]
    rfl
  | succ d ih =>
    intro i k s h hi hd
    have hlt : i < r.length := by omega
    have hp := okp_ptr gr (i := (i : Int)) (by omega) (by omega)
    have hl := h.len
    have hle := h.le
    rw [show k + (d + 1) + 1 = (k + d + 1) + 1 from by omega, spec_l2Distances.l0, if_pos (by omega), if_pos (by omega), drop_rd r i hlt, wrap_succ hlt (by omega)]
    have hstep : broots (rd r (i : Int) :: r.drop (i + 1)) s = broots (r.drop (i + 1)) (bm s (rd r (i : Int)) 1) := rfl
    rw [hstep]
    have hinv := bm_inv h hp (far := 1) (by omega) (by omega)
    rw [← ih (i + 1) k (bm s (rd r (i : Int)) 1) hinv (by omega) (by omega)]
    unfold bm
    by_cases c1 : rd r (i : Int) = -1
    · rw [if_pos c1, if_neg (by simp [c1])]
    · rw [if_neg c1, if_pos (by omega), if_pos (by omega)]
      by_cases c2 : rd s.1 (rd r (i : Int)) < 0
      · rw [if_pos c2, if_pos (by omega), if_pos ⟨c1, c2⟩]
      · rw [if_neg c2, if_neg (by simp [c2])]
theorem specD_l1 (n : Nat) (hn : n ≤ 8) (a b c : List Int) (ha : a.length = n) (hb : b.length = n) (ga : ∀ x ∈ a, -1 ≤ x ∧ x < (n : Int)) (gb : ∀ x ∈ b, -1 ≤ x ∧ x < (n : Int)) : ∀ (d i k : Nat) (s : List Int × List Int), Binv n s → i ≤ s.2.length → n - i = d → 4 * d + 4 ≤ k →
    spec_l2Distances.l1 k s.1 s.2 (i : Int) a b c = some (bloop a b (d + 1) i s).1 := by
  intro d
  induction d with
  | zero =>
    intro i k s h hi hd hk
    obtain ⟨k, rfl⟩ : ∃ m, k = m + 1 := ⟨k - 1, by omega⟩
    have hle := h.le
    rw [spec_l2Distances.l1, if_neg (by omega), bloop, if_neg (by omega)]
  | succ d ih =>
    intro i k s h hi hd hk
    have hle := h.le
    have hl := h.len
    rw [bloop]
    by_cases c0 : i < s.2.length
    · obtain ⟨k, rfl⟩ : ∃ m, k = m + 4 := ⟨k - 4, by omega⟩
      have hc := h.op _ (rd_mem s.2 (i : Int) (by omega) (by omega))
      have hv : 1 ≤ rd s.1 (rd s.2 (i : Int)) ∧ rd s.1 (rd s.2 (i : Int)) ≤ (s.2.length : Int) := by
        rcases h.val _ hc.1 hc.2.1 with v | v
        · omega
        · exact v
      have hpa := okp_ptr ga hc.1 (by omega)
      have hpb := okp_ptr gb hc.1 (by omega)
      have i1 := bm_inv h (p := rd a (rd s.2 (i : Int))) (far := rd s.1 (rd s.2 (i : Int)) + 1) hpa (by omega) (by omega)
      have k1 := bm_keep h (p := rd a (rd s.2 (i : Int))) (far := rd s.1 (rd s.2 (i : Int)) + 1) hpa hc.1 (by omega)
      have l1 := bm_len s (rd a (rd s.2 (i : Int))) (rd s.1 (rd s.2 (i : Int)) + 1)
      have hw : wrap64 (rd s.1 (rd s.2 (i : Int)) + 1) = rd s.1 (rd s.2 (i : Int)) + 1 := wrap_id (by omega) (by omega)
      rw [if_pos c0, ← ih (i + 1) k (bstep a b s (i : Int)) (bstep_inv ha hb ga gb h (by omega) (by omega)) (by have := bstep_len a b s (i : Int); omega) (by omega) (by omega)]
      rw [show k + 4 = (k + 3) + 1 from rfl, spec_l2Distances.l1, if_pos (by omega), if_pos (by omega), if_pos hc.1, if_pos (by omega), if_pos (by omega)]
      unfold bstep
      generalize hs1 : bm s (rd a (rd s.2 (i : Int))) (rd s.1 (rd s.2 (i : Int)) + 1) = s1 at i1 k1 l1 ⊢
      have l1n := i1.len
      have l1e := i1.le
      have hA : ∀ kk, spec_l2Distances.l2 (kk + 1) s.1 s.2 (i : Int) (rd s.2 (i : Int)) [rd a (rd s.2 (i : Int)), rd b (rd s.2 (i : Int))] 0 a b c = spec_l2Distances.l2 kk s1.1 s1.2 (i : Int) (rd s.2 (i : Int)) [rd a (rd s.2 (i : Int)), rd b (rd s.2 (i : Int))] 1 a b c := by
        intro kk
        have e0 : rd [rd a (rd s.2 (i : Int)), rd b (rd s.2 (i : Int))] 0 = rd a (rd s.2 (i : Int)) := rfl
        rw [spec_l2Distances.l2, if_pos (by omega), if_pos (by omega), if_pos (by simp), e0, show wrap64 (0 + 1) = 1 from by unfold wrap64; omega, ← hs1, hw]
        unfold bm
        by_cases c1 : rd a (rd s.2 (i : Int)) = -1
        · rw [if_pos c1, if_neg (by simp [c1])]
        · rw [if_neg c1, if_pos (by omega), if_pos (by omega)]
          by_cases c2 : rd s.1 (rd a (rd s.2 (i : Int))) < 0
          · rw [if_pos c2, if_pos (by omega), if_pos (by omega), if_pos (by omega), if_pos ⟨c1, c2⟩]
          · rw [if_neg c2, if_neg (by simp [c2])]
      have hB : ∀ kk, spec_l2Distances.l2 (kk + 1) s1.1 s1.2 (i : Int) (rd s.2 (i : Int)) [rd a (rd s.2 (i : Int)), rd b (rd s.2 (i : Int))] 1 a b c = spec_l2Distances.l2 kk (bm s1 (rd b (rd s.2 (i : Int))) (rd s.1 (rd s.2 (i : Int)) + 1)).1 (bm s1 (rd b (rd s.2 (i : Int))) (rd s.1 (rd s.2 (i : Int)) + 1)).2 (i : Int) (rd s.2 (i : Int)) [rd a (rd s.2 (i : Int)), rd b (rd s.2 (i : Int))] 2 a b c := by
        intro kk
        have e0 : rd [rd a (rd s.2 (i : Int)), rd b (rd s.2 (i : Int))] 1 = rd b (rd s.2 (i : Int)) := rfl
        rw [spec_l2Distances.l2, if_pos (by omega), if_pos (by omega), if_pos (by simp), e0, show wrap64 (1 + 1) = 2 from by unfold wrap64; omega, k1, hw]
        unfold bm
        by_cases c1 : rd b (rd s.2 (i : Int)) = -1
        · rw [if_pos c1, if_neg (by simp [c1])]
        · rw [if_neg c1, if_pos (by omega), if_pos (by omega)]
          by_cases c2 : rd s1.1 (rd b (rd s.2 (i : Int))) < 0
          · rw [if_pos c2, if_pos (by omega), if_pos (by omega), if_pos (by omega), if_pos ⟨c1, c2⟩]
          · rw [if_neg c2, if_neg (by simp [c2])]
      rw [show k + 3 = (k + 2) + 1 from rfl, hA, show k + 2 = (k + 1) + 1 from rfl, hB, spec_l2Distances.l2, if_neg (by omega), wrap_succ c0 (by omega)]
    · obtain ⟨k, rfl⟩ : ∃ m, k = m + 1 := ⟨k - 1, by omega⟩
      rw [if_neg c0, spec_l2Distances.l1, if_neg (by omega)]
theorem specD_tells (a b c r : List Int) (ha : a.length ≤ 8) (hb : b.length = a.length) (ga : ∀ x ∈ a, -1 ≤ x ∧ x < (a.length : Int)) (gb : ∀ x ∈ b, -1 ≤ x ∧ x < (a.length : Int)) (gr : ∀ x ∈ r, -1 ≤ x ∧ x < (a.length : Int)) (hr : r.length ≤ 1000) (k : Nat) (hk : 2000 ≤ k) :
    spec_l2Distances.f k a b c r = some (distM a b r) := by
  unfold spec_l2Distances.f
  rw [many_tells a.length k (by omega) (by omega)]
  simp only [Option.bind_some]
  obtain ⟨k, rfl⟩ : ∃ m, k = m + r.length + 1 := ⟨k - r.length - 1, by omega⟩
  have h0 := specD_l0 a.length ha a b c r gr hr r.length 0 k (bstart a.length) (bstart_inv _) (by omega) (by omega)
  rw [List.drop_zero] at h0
  refine Eq.trans h0 ?_
  have h1 := specD_l1 a.length ha a b c rfl hb ga gb a.length 0 k (broots r (bstart a.length)) (broots_inv r _ gr (bstart_inv _)) (by omega) (by omega) (by omega)
  exact h1
theorem l1Cell_tells (a b c : List Int) (x : Int) (k : Nat) (hk : 40 ≤ k) : spec_l1Cell.f k a b c x = some (cellM a b c x) := by
  unfold spec_l1Cell.f cellM
  rw [specHV_tells a b c k hk]
  simp only [Option.bind_some]
  cases h : hv a b c with
  | false => rw [if_neg (by simp), Bool.false_and]
  | true =>
    rw [if_pos rfl, Bool.true_and]
    by_cases h1 : x ≥ 0
    · rw [if_pos h1]; congr 1; simp; omega
    · rw [if_neg h1, decide_eq_false (by omega)]
theorem specDO_tells (a b c : List Int) (x : Int) (k : Nat) (hk : 2000 ≤ k) : spec_DistanceOf.f k a b c x = some (doM a b c x) := by
  unfold spec_DistanceOf.f doM
  rw [l1Cell_tells a b c x k (by omega)]
  simp only [Option.bind_some]
  by_cases h : cellM a b c x = true
  · have hh := cellM_iff.1 h
    have hl := hv_len hh.1
    have hdl := distM_len (by omega) (hv_a hh.1) (hv_b hh.1) (hv_c hh.1)
    rw [if_pos h, if_pos h, specD_tells a b c _ (by omega) (by omega) (hv_a hh.1) (hv_b hh.1) (hv_c hh.1) (by omega) k hk]
    simp only [Option.bind_some]
    rw [if_pos (by omega), if_pos (by omega)]
    by_cases h2 : rd (distM a b c) x < 0
    · rw [if_pos h2, if_pos h2]
    · rw [if_neg h2, if_neg h2]
  · rw [if_neg h, if_neg h]
theorem l2Points_tells (a b c : List Int) (i : Nat) (x : Int) (h : i < a.length) (hb : b.length = a.length) : spec_l2Points.f a b c (i : Int) x = some (decide (rd a (i : Int) = x ∨ rd b (i : Int) = x)) := by
  unfold spec_l2Points.f
  rw [if_pos (by omega), if_pos (by omega)]
  by_cases h1 : rd a (i : Int) = x
  · rw [if_pos h1]; simp [h1]
  · rw [if_neg h1, if_pos (by omega)]; simp [h1]; rw [Bool.eq_iff_iff]; simp
theorem specPA_l1 (a b c d : List Int) (n : Int) (o : List Int) (ha : a.length = d.length) (hb : b.length = d.length) (hl : d.length ≤ 8) (ho : 0 < o.length) (ho2 : o.length ≤ 1000) (kk : Nat) (j : Int) : ∀ (e i k : Nat), d.length - i = e → fnd a b d (rd o 0) (wrap64 (n - 1)) i = some j → e + 1 + kk ≤ k →
    ∃ k', kk ≤ k' ∧ spec_PathTo.l1 k n d o (i : Int) a b c = spec_PathTo.l0 k' (wrap64 (n - 1)) d (j :: o) a b c := by
  intro e
  induction e with
  | zero => intro i k he hj hk; rw [fnd_nil _ _ _ _ _ _ (by omega)] at hj; exact absurd hj (by simp)
  | succ e ih =>
    intro i k he hj hk
    obtain ⟨k, rfl⟩ : ∃ m, k = m + 1 := ⟨k - 1, by omega⟩
    have hlt : i < d.length := by omega
    rw [fnd_cons _ _ _ _ _ _ hlt] at hj
    rw [spec_PathTo.l1, if_pos (by omega), if_pos (by omega), wrap_succ hlt (by omega)]
    by_cases h1 : rd d (i : Int) = wrap64 (n - 1)
    · rw [if_pos h1, if_pos (by omega), l2Points_tells a b c i (rd o 0) (by omega) (by omega)]
      simp only [Option.bind_some]
      by_cases h2 : rd a (i : Int) = rd o 0 ∨ rd b (i : Int) = rd o 0
      · rw [if_pos ⟨h1, h2⟩] at hj
        obtain rfl := Option.some.inj hj
        refine ⟨k, by omega, ?_⟩
        rw [if_pos (by simpa using h2), if_pos (by simp; omega)]
        rfl
      · rw [if_neg (fun hh => h2 hh.2)] at hj
        obtain ⟨k', h3, h4⟩ := ih (i + 1) k (by omega) hj (by omega)
        exact ⟨k', h3, by rw [if_neg (by simpa using h2)]; exact h4⟩
    · rw [if_neg (fun hh => h1 hh.1)] at hj
      obtain ⟨k', h3, h4⟩ := ih (i + 1) k (by omega) hj (by omega)
      exact ⟨k', h3, by rw [if_neg h1]; exact h4⟩
theorem specPA_l0 {a b c : List Int} (hv0 : hv a b c = true) : ∀ (m : Nat) (o : List Int) (k : Nat), PInv a.length (distM a b c) o m → o.length + m ≤ 900 → 20 * m + 1 ≤ k →
    spec_PathTo.l0 k ((m : Int) + 1) (distM a b c) o a b c = some (pathFrom a b (distM a b c) m o, true) := by
  have hl := hv_len hv0
  have hdl := distM_len (by omega) (hv_a hv0) (hv_b hv0) (hv_c hv0)
  intro m
  induction m with
  | zero =>
    intro o k h ho hk
    obtain ⟨k, rfl⟩ : ∃ m, k = m + 1 := ⟨k - 1, by omega⟩
    rw [spec_PathTo.l0, if_neg (by omega), pathFrom]
  | succ m ih =>
    intro o k h ho hk
    obtain ⟨k, rfl⟩ : ∃ m, k = m + 1 := ⟨k - 1, by omega⟩
    obtain ⟨j, hj, hp, _⟩ := p_next (by omega) (hv_a hv0) (hv_b hv0) (hv_c hv0) h
    have hw : wrap64 (((m + 1 : Nat) : Int) + 1 - 1) = (m : Int) + 1 := by unfold wrap64; omega
    rw [spec_PathTo.l0, if_pos (by omega), pathFrom, hj]
    obtain ⟨k', h3, h4⟩ := specPA_l1 a b c (distM a b c) (((m + 1 : Nat) : Int) + 1) o (by omega) (by omega) (by omega) h.ne (by omega) (20 * m + 1) j (distM a b c).length 0 k (by omega) (by rw [hw]; exact hj) (by omega)
    refine Eq.trans h4 ?_
    rw [hw]
    exact ih (j :: o) k' hp (by rw [List.length_cons]; omega) (by omega)
theorem specPA_tells (a b c : List Int) (x : Int) (k : Nat) (hk : 2000 ≤ k) : spec_PathTo.f k a b c x = some (pathM a b c x) := by
  unfold spec_PathTo.f pathM
  rw [specDO_tells a b c x k hk]
  simp only [Option.bind_some]
  unfold doM
  by_cases h : cellM a b c x = true
  · have hh := cellM_iff.1 h
    have hl := hv_len hh.1
    rw [if_pos h, if_pos h]
    have hi := distM_inv (by omega) (hv_a hh.1) (hv_b hh.1) (hv_c hh.1)
    have hle := hi.le
    by_cases h2 : rd (distM a b c) x < 0
    · rw [if_pos h2, if_pos h2, if_neg (by simp)]
    · rw [if_neg h2, if_neg h2, if_pos rfl, specD_tells a b c _ (by omega) (by omega) (hv_a hh.1) (hv_b hh.1) (hv_c hh.1) (by omega) k hk]
      simp only [Option.bind_some]
      have hv2 : 1 ≤ rd (distM a b c) x ∧ rd (distM a b c) x ≤ 8 := by
        rcases hi.val x hh.2.1 hh.2.2 with v | v
        · have v' : rd (distM a b c) x = -1 := v
          omega
        · have v' : rd (distM a b c) x ≤ _ := v.2
          exact ⟨v.1, by omega⟩
      have e : rd (distM a b c) x = (((rd (distM a b c) x).toNat - 1 : Nat) : Int) + 1 := by omega
      have := specPA_l0 hh.1 ((rd (distM a b c) x).toNat - 1) [x] k ⟨by simp, hh.2.1, hh.2.2, e⟩ (by simp; omega) (by omega)
      rw [← e] at this
      exact this
  · rw [if_neg h, if_neg h, if_neg (by simp)]
/-- For each cell whether a root leads to it. -/
def reachM (a b c : List Int) : List Bool := if hv a b c = true then (distM a b c).map (fun x => decide (x > 0)) else []
theorem reachM_len (a b c : List Int) : (reachM a b c).length ≤ 8 := by
  unfold reachM
  by_cases h : hv a b c = true
  · have hl := hv_len h
    rw [if_pos h, List.length_map, distM_len (by omega) (hv_a h) (hv_b h) (hv_c h)]; omega
  · rw [if_neg h]; simp
theorem rdb_nat (l : List Bool) (n : Nat) (h : n < l.length) : rdOf false l (n : Int) = l[n] := by
  unfold rdOf; simp [h]
theorem dropb_rd (l : List Bool) (n : Nat) (h : n < l.length) : l.drop n = rdOf false l (n : Int) :: l.drop (n + 1) := by
  rw [rdb_nat l n h]; exact List.drop_eq_getElem_cons h
/-- How many are true. -/
def trues : List Bool → Nat
  | [] => 0
  | x :: l => (if x = true then 1 else 0) + trues l
theorem trues_drop (l : List Bool) (i : Nat) (h : i < l.length) : trues (l.drop i) = (if rdOf false l (i : Int) = true then 1 else 0) + trues (l.drop (i + 1)) := by rw [dropb_rd l i h, trues]
theorem trues_nil (l : List Bool) (i : Nat) (h : l.length ≤ i) : trues (l.drop i) = 0 := by rw [List.drop_eq_nil_of_le h, trues]
def clM (a b c : List Int) : Int := ((trues (reachM a b c) : Nat) : Int)
theorem reach_rd {a b c : List Int} (h : hv a b c = true) {x : Int} (h0 : 0 ≤ x) (h1 : x < (a.length : Int)) : rdOf false (reachM a b c) x = decide (rd (distM a b c) x > 0) := by
  have hl := hv_len h
  have hdl := distM_len (by omega) (hv_a h) (hv_b h) (hv_c h)
  obtain ⟨n, rfl⟩ : ∃ n : Nat, x = (n : Int) := ⟨x.toNat, by omega⟩
  rw [rdb_nat _ n (by unfold reachM; rw [if_pos h, List.length_map]; omega), rd_nat _ n (by omega)]
  unfold reachM
  simp [h]
theorem reachM_len_eq {a b c : List Int} (h : hv a b c = true) : (reachM a b c).length = a.length := by
  have hl := hv_len h
  unfold reachM
  rw [if_pos h, List.length_map, distM_len (by omega) (hv_a h) (hv_b h) (hv_c h)]
theorem reach_iff {a b c : List Int} (h : hv a b c = true) {x : Int} (h0 : 0 ≤ x) (h1 : x < (a.length : Int)) : rdOf false (reachM a b c) x = true ↔ 1 ≤ rd (distM a b c) x := by
  rw [reach_rd h h0 h1, decide_eq_true_iff]; omega
/-- A root is none, or reached. -/
theorem reach_root {a b c : List Int} (h : hv a b c = true) (i : Nat) (hi : i < c.length) : rd c (i : Int) = -1 ∨ (0 ≤ rd c (i : Int) ∧ rd c (i : Int) < (a.length : Int) ∧ rdOf false (reachM a b c) (rd c (i : Int)) = true) := by
  have hl := hv_len h
  have hp := okp_ptr (hv_c h) (i := (i : Int)) (by omega) (by omega)
  rcases distM_start (by omega) (hv_a h) (hv_b h) (hv_c h) _ (rd_mem c (i : Int) (by omega) (by omega)) with r | r
  · exact Or.inl r
  · rcases hp with q | q
    · exact Or.inl q
    · exact Or.inr ⟨q.1, q.2, (reach_iff h q.1 q.2).2 r⟩
theorem reach_ptr {a b c : List Int} (h : hv a b c = true) (i : Nat) (hi : i < a.length) (hr : rdOf false (reachM a b c) (i : Int) = true) : (rd a (i : Int) = -1 ∨ (0 ≤ rd a (i : Int) ∧ rd a (i : Int) < (a.length : Int) ∧ rdOf false (reachM a b c) (rd a (i : Int)) = true)) ∧ (rd b (i : Int) = -1 ∨ (0 ≤ rd b (i : Int) ∧ rd b (i : Int) < (a.length : Int) ∧ rdOf false (reachM a b c) (rd b (i : Int)) = true)) := by
  have hl := hv_len h
  have pa := okp_ptr (hv_a h) (i := (i : Int)) (by omega) (by omega)
  have pb := okp_ptr (hv_b h) (i := (i : Int)) (by omega) (by omega)
  have hc := distM_closed (by omega) (hv_a h) (hv_b h) (hv_c h) (x := (i : Int)) (by omega) (by omega) ((reach_iff h (by omega) (by omega)).1 hr)
  refine ⟨?_, ?_⟩
  · rcases pa with q | q
    · exact Or.inl q
    · exact Or.inr ⟨q.1, q.2, (reach_iff h q.1 q.2).2 (by have := hc.1; omega)⟩
  · rcases pb with q | q
    · exact Or.inl q
    · exact Or.inr ⟨q.1, q.2, (reach_iff h q.1 q.2).2 (by have := hc.2; omega)⟩
theorem ha_hv {a b c : List Int} (h : hv a b c = true) : b.length = a.length := (hv_len h).1.symm
/-- A reached cell is one with a way. -/
theorem reach_way {a b c : List Int} (h : hv a b c = true) {x : Int} (h0 : 0 ≤ x) (h1 : x < (a.length : Int)) : rdOf false (reachM a b c) x = true ↔ ∃ d, way a b c d x := by
  rw [reach_iff h h0 h1]
  exact ⟨fun g => ⟨_, distM_way (ha_hv h) (hv_a h) (hv_b h) (hv_c h) h0 h1 g⟩, fun ⟨d, g⟩ => (way_distM (ha_hv h) (hv_a h) (hv_b h) (hv_c h) d x g).1⟩
theorem way_mono {a b c a' b' c' : List Int} (hc : ∀ x ∈ c, 0 ≤ x → x ∈ c') (hn : ∀ (d : Nat) (x y : Int), way a b c d x → way a' b' c' d x → 0 ≤ y → (rd a x = y ∨ rd b x = y) → (rd a' x = y ∨ rd b' x = y)) : ∀ (d : Nat) (x : Int), way a b c d x → way a' b' c' d x
  | 0, _, h => h
  | d + 1, y, h => by
    rcases h.2 with ⟨e, hy⟩ | ⟨x, hx, e⟩
    · exact ⟨h.1, Or.inl ⟨e, hc y hy h.1⟩⟩
    · have ih := way_mono hc hn d x hx
      exact ⟨h.1, Or.inr ⟨x, ih, hn d x y hx ih h.1 e⟩⟩
theorem way_none {a b c : List Int} (hc : ∀ x ∈ c, x < 0) : ∀ (d : Nat) (x : Int), ¬ way a b c d x
  | 0, _, h => h
  | d + 1, y, h => by
    rcases h.2 with ⟨_, hy⟩ | ⟨x, hx, _⟩
    · have := hc y hy; have := h.1; omega
    · exact way_none hc d x hx
/-- A way behind ways to its starts. -/
theorem way_comp {a b c c' : List Int} (hc : ∀ x ∈ c, 0 ≤ x → ∃ e, way a b c' e x) : ∀ (d : Nat) (x : Int), way a b c d x → ∃ e, way a b c' e x
  | 0, _, h => absurd h (fun h => h)
  | d + 1, y, h => by
    rcases h.2 with ⟨_, hy⟩ | ⟨x, hx, e⟩
    · exact hc y hy h.1
    · obtain ⟨f, hf⟩ := way_comp hc d x hx
      exact ⟨f + 1, way_next hf h.1 e⟩
theorem trues_app (l m : List Bool) : trues (l ++ m) = trues l + trues m := by
  induction l with
  | nil => simp [trues]
  | cons x l ih => rw [List.cons_append, trues, trues, ih]; omega
theorem trues_len (l : List Bool) : trues l ≤ l.length := by
  induction l with
  | nil => simp [trues]
  | cons x l ih => rw [trues, List.length_cons]; cases x <;> simp <;> omega
theorem trues_le_from : ∀ (e i : Nat) (l m : List Bool), l.length = m.length → l.length - i = e → (∀ j : Nat, i ≤ j → j < l.length → rdOf false l (j : Int) = true → rdOf false m (j : Int) = true) → trues (l.drop i) ≤ trues (m.drop i) := by
  intro e
  induction e with
  | zero => intro i l m hl he h; rw [trues_nil l i (by omega)]; omega
  | succ e ih =>
    intro i l m hl he h
    have n := ih (i + 1) l m hl (by omega) (fun j h1 h2 h3 => h j (by omega) h2 h3)
    rw [trues_drop l i (by omega), trues_drop m i (by omega)]
    by_cases c : rdOf false l (i : Int) = true
    · rw [if_pos c, if_pos (h i (by omega) (by omega) c)]; omega
    · rw [if_neg c]; omega
theorem trues_le {l m : List Bool} (hl : l.length = m.length) (h : ∀ j : Nat, j < l.length → rdOf false l (j : Int) = true → rdOf false m (j : Int) = true) : trues l ≤ trues m := by
  have := trues_le_from l.length 0 l m hl (by omega) (fun j _ h2 h3 => h j h2 h3)
  rwa [List.drop_zero, List.drop_zero] at this
theorem trues_pos_from : ∀ (e i : Nat) (l : List Bool), l.length - i = e → (1 ≤ trues (l.drop i) ↔ ∃ j : Nat, i ≤ j ∧ j < l.length ∧ rdOf false l (j : Int) = true) := by
  intro e
  induction e with
  | zero =>
    intro i l he
    rw [trues_nil l i (by omega)]
    exact ⟨fun h => absurd h (by omega), fun ⟨j, h1, h2, _⟩ => by omega⟩
  | succ e ih =>
    intro i l he
    have n := ih (i + 1) l (by omega)
    rw [trues_drop l i (by omega)]
    by_cases c : rdOf false l (i : Int) = true
    · rw [if_pos c]
      exact ⟨fun _ => ⟨i, by omega, by omega, c⟩, fun _ => by omega⟩
    · rw [if_neg c, Nat.zero_add, n]
      refine ⟨fun ⟨j, h1, h2, h3⟩ => ⟨j, by omega, h2, h3⟩, fun ⟨j, h1, h2, h3⟩ => ⟨j, ?_, h2, h3⟩⟩
      by_cases e2 : j = i
      · subst e2; exact absurd h3 c
      · omega
theorem trues_pos (l : List Bool) : 1 ≤ trues l ↔ ∃ j : Nat, j < l.length ∧ rdOf false l (j : Int) = true := by
  have := trues_pos_from l.length 0 l (by omega)
  rw [List.drop_zero] at this
  rw [this]
  exact ⟨fun ⟨j, _, h2, h3⟩ => ⟨j, h2, h3⟩, fun ⟨j, h2, h3⟩ => ⟨j, by omega, h2, h3⟩⟩
theorem trues_map : ∀ (l : List Int), (∀ x ∈ l, x = -1 ∨ 1 ≤ x) → trues (l.map (fun x => decide (x > 0))) + negs l = l.length
  | [], _ => rfl
  | x :: l, h => by
    have ih := trues_map l (fun y hy => h y (by simp [hy]))
    rw [List.map_cons, trues, negs, List.length_cons]
    rcases h x (by simp) with e | e
    · subst e; rw [if_neg (by simp), if_pos (by omega)]; omega
    · rw [if_pos (by simp; omega), if_neg (by omega)]; omega
/-- No distance is more than the number of live cells. -/
theorem dist_le_live {a b c : List Int} (h : hv a b c = true) {x : Int} (h0 : 0 ≤ x) (h1 : x < (a.length : Int)) : rd (distM a b c) x ≤ clM a b c := by
  have hi := distM_inv (ha_hv h) (hv_a h) (hv_b h) (hv_c h)
  have hl : (distM a b c).length = a.length := hi.len
  have hc := hi.cnt
  have ht := trues_map (distM a b c) (by
    intro y hy
    obtain ⟨j, hj, e⟩ := List.getElem_of_mem hy
    have := hi.val (j : Int) (by omega) (by omega)
    have e2 : rd (distM a b c) (j : Int) = y := by rw [rd_nat _ j hj]; exact e
    have e3 : rd (bloop a b (a.length + 1) 0 (broots c (bstart a.length))).1 (j : Int) = y := e2
    rw [e3] at this
    omega)
  have e : trues (reachM a b c) = trues ((distM a b c).map (fun x => decide (x > 0))) := by unfold reachM; rw [if_pos h]
  unfold clM
  rw [e]
  have hc' : (bloop a b (a.length + 1) 0 (broots c (bstart a.length))).2.length + negs (distM a b c) = a.length := hc
  rcases hi.val x h0 h1 with v | v
  · have v' : rd (distM a b c) x = -1 := v
    omega
  · have v' : rd (distM a b c) x ≤ ((bloop a b (a.length + 1) 0 (broots c (bstart a.length))).2.length : Int) := v.2
    omega
theorem clM_le {a b c : List Int} (h : hv a b c = true) : clM a b c ≤ (a.length : Int) := by
  unfold clM
  have := trues_len (reachM a b c)
  rw [reachM_len_eq h] at this
  omega
theorem clM_pos {a b c : List Int} (h : hv a b c = true) : 0 < clM a b c ↔ ∃ j : Nat, j < c.length ∧ rd c (j : Int) ≠ -1 := by
  unfold clM
  have hp := trues_pos (reachM a b c)
  rw [reachM_len_eq h] at hp
  constructor
  · intro g
    obtain ⟨j, hj, e⟩ := hp.1 (by omega)
    obtain ⟨d, w⟩ := (reach_way h (by omega) (by omega)).1 e
    refine Classical.byContradiction fun hn => ?_
    refine way_none (a := a) (b := b) (c := c) (fun x hx => ?_) d _ w
    obtain ⟨i, hi, ei⟩ := List.getElem_of_mem hx
    have : rd c (i : Int) = -1 := Classical.byContradiction fun g2 => hn ⟨i, hi, g2⟩
    rw [rd_nat c i hi, ei] at this
    omega
  · intro ⟨j, hj, e⟩
    have hr := reach_root h j hj
    have hr2 := hr.resolve_left e
    have := hp.2 ⟨(rd c (j : Int)).toNat, by omega, by rw [show (((rd c (j : Int)).toNat : Nat) : Int) = rd c (j : Int) from by omega]; exact hr2.2.2⟩
    omega
/-- Fewer starts reach fewer cells; more pointers reach more. -/
theorem clM_mono {a b c c' : List Int} (h : hv a b c = true) (h' : hv a b c' = true) (hc : ∀ x ∈ c', 0 ≤ x → x ∈ c) : clM a b c' ≤ clM a b c := by
  unfold clM
  have e1 := reachM_len_eq h
  have e2 := reachM_len_eq h'
  have := trues_le (l := reachM a b c') (m := reachM a b c) (by omega) (fun j hj e => by
    obtain ⟨d, w⟩ := (reach_way h' (by omega) (by omega)).1 e
    exact (reach_way h (by omega) (by omega)).2 ⟨d, way_mono hc (fun _ _ _ _ _ _ q => q) d _ w⟩)
  omega
theorem clM_zero {a b c : List Int} (h : hv a b c = true) (hc : ∀ x ∈ c, x < 0) : clM a b c = 0 := by
  have h1 : ¬ 0 < clM a b c := by
    rw [clM_pos h]
    intro ⟨j, hj, e⟩
    have h2 := hc _ (rd_mem c (j : Int) (by omega) (by omega))
    have h3 := hv_c h _ (rd_mem c (j : Int) (by omega) (by omega))
    omega
  have : 0 ≤ clM a b c := by unfold clM; omega
  omega
theorem reach_edge {a b c : List Int} (h : hv a b c = true) {x y : Int} (y0 : 0 ≤ y) (y1 : y < (a.length : Int)) (hr : rdOf false (reachM a b c) y = true) (e : rd a y = x ∨ rd b y = x) (x0 : 0 ≤ x) (x1 : x < (a.length : Int)) : rdOf false (reachM a b c) x = true := by
  obtain ⟨d, w⟩ := (reach_way h y0 y1).1 hr
  exact (reach_way h x0 x1).2 ⟨d + 1, way_next w x0 e⟩
theorem rd_cons0 (j : Int) (o : List Int) : rd (j :: o) 0 = j := rfl
theorem rd_conss (j : Int) (o : List Int) (i : Nat) : rd (j :: o) ((i + 1 : Nat) : Int) = rd o (i : Int) := by
  unfold rd; rw [Int.toNat_natCast, Int.toNat_natCast]; rfl
/-- A way from a cell at distance m + 1: the distances grow by one, each cell points to the next. -/
structure Pth (n : Nat) (a b d o : List Int) (m : Nat) : Prop where
  ne : 0 < o.length
  cell : ∀ i : Nat, i < o.length → 0 ≤ rd o (i : Int) ∧ rd o (i : Int) < (n : Int) ∧ rd d (rd o (i : Int)) = (m : Int) + 1 + (i : Int)
  edge : ∀ i : Nat, i + 1 < o.length → (rd a (rd o (i : Int)) = rd o ((i + 1 : Nat) : Int) ∨ rd b (rd o (i : Int)) = rd o ((i + 1 : Nat) : Int))
theorem pth_cons {n : Nat} {a b d o : List Int} {m : Nat} (h : Pth n a b d o (m + 1)) {j : Int} (h0 : 0 ≤ j) (h1 : j < (n : Int)) (h2 : rd d j = (m : Int) + 1) (h3 : rd a j = rd o 0 ∨ rd b j = rd o 0) : Pth n a b d (j :: o) m := by
  refine ⟨by simp, fun i hi => ?_, fun i hi => ?_⟩
  · cases i with
    | zero => exact ⟨h0, h1, by have : rd (j :: o) ((0 : Nat) : Int) = j := rfl; rw [this]; omega⟩
    | succ i =>
      rw [rd_conss]
      have := h.cell i (by simpa using hi)
      exact ⟨this.1, this.2.1, by omega⟩
  · cases i with
    | zero =>
      rw [rd_conss]
      exact h3
    | succ i =>
      rw [rd_conss, rd_conss]
      exact h.edge i (by simpa using hi)
theorem pathFrom_spec {a b c : List Int} (hv0 : hv a b c = true) : ∀ (m : Nat) (o : List Int), Pth a.length a b (distM a b c) o m →
    Pth a.length a b (distM a b c) (pathFrom a b (distM a b c) m o) 0 ∧ (pathFrom a b (distM a b c) m o).length = o.length + m ∧ ∃ i : Nat, i + 1 = (pathFrom a b (distM a b c) m o).length ∧ rd (pathFrom a b (distM a b c) m o) (i : Int) = rd o ((o.length - 1 : Nat) : Int)
  | 0, o, h => by
    rw [pathFrom]
    have := h.ne
    exact ⟨h, by omega, o.length - 1, by omega, rfl⟩
  | m + 1, o, h => by
    have hl := hv_len hv0
    have hd := h.cell 0 h.ne
    have hz : rd o ((0 : Nat) : Int) = rd o 0 := rfl
    rw [hz] at hd
    obtain ⟨j, hj, hp, j0, j1, j2, j3⟩ := p_next (by omega) (hv_a hv0) (hv_b hv0) (hv_c hv0) (o := o) (m := m) ⟨h.ne, hd.1, hd.2.1, by omega⟩
    rw [pathFrom, hj]
    obtain ⟨r1, r2, i, r3, r4⟩ := pathFrom_spec hv0 m (j :: o) (pth_cons h j0 j1 j2 j3)
    refine ⟨r1, ?_, i, r3, ?_⟩
    · show (pathFrom a b (distM a b c) m (j :: o)).length = _
      rw [r2, List.length_cons]; omega
    · show rd (pathFrom a b (distM a b c) m (j :: o)) (i : Int) = _
      rw [r4]
      have hn := h.ne
      have : ((j :: o).length - 1 : Nat) = (o.length - 1) + 1 := by rw [List.length_cons]; omega
      rw [this, rd_conss]
theorem pathM_spec {a b c : List Int} {x : Int} (h : cellM a b c x = true) (hd : 1 ≤ rd (distM a b c) x) : ∃ L, pathM a b c x = (L, true) ∧ Pth a.length a b (distM a b c) L 0 ∧ (L.length : Int) = rd (distM a b c) x ∧ rd L (rd (distM a b c) x - 1) = x := by
  obtain ⟨hh, h0, h1⟩ := cellM_iff.1 h
  have p1 : Pth a.length a b (distM a b c) [x] ((rd (distM a b c) x).toNat - 1) := by
    refine ⟨by simp, fun i hi => ?_, fun i hi => absurd hi (by simp)⟩
    obtain rfl : i = 0 := by simpa using hi
    have e : rd [x] ((0 : Nat) : Int) = x := rfl
    rw [e]
    exact ⟨h0, h1, by omega⟩
  obtain ⟨r1, r2, i, r3, r4⟩ := pathFrom_spec hh _ _ p1
  refine ⟨_, ?_, r1, ?_, ?_⟩
  · unfold pathM
    rw [if_pos h, if_neg (by omega)]
  · rw [r2]; simp; omega
  · have e : rd [x] (([x].length - 1 : Nat) : Int) = x := rfl
    rw [e] at r4
    rw [r2] at r3
    have : rd (distM a b c) x - 1 = (i : Int) := by simp at r3; omega
    rw [this]; exact r4
theorem pathM_none {a b c : List Int} {x : Int} (h : (pathM a b c x).2 = true) : cellM a b c x = true ∧ 1 ≤ rd (distM a b c) x := by
  unfold pathM at h
  by_cases c0 : cellM a b c x = true
  · rw [if_pos c0] at h
    obtain ⟨hh, h0, h1⟩ := cellM_iff.1 c0
    have := distM_val (ha_hv hh) (hv_a hh) (hv_b hh) (hv_c hh) h0 h1
    by_cases c1 : rd (distM a b c) x < 0
    · rw [if_pos c1] at h; exact absurd h (by simp)
    · exact ⟨c0, by omega⟩
  · rw [if_neg c0] at h; exact absurd h (by simp)
/-- A cell at distance one is a start. -/
theorem dist_one_root {a b c : List Int} (h : hv a b c = true) {x : Int} (h0 : 0 ≤ x) (h1 : x < (a.length : Int)) (hd : rd (distM a b c) x = 1) : x ∈ c := by
  have w := distM_way (ha_hv h) (hv_a h) (hv_b h) (hv_c h) h0 h1 (by omega)
  rw [hd] at w
  rcases w.2 with ⟨_, e⟩ | ⟨y, w, _⟩
  · exact e
  · exact absurd w (fun h => h)
theorem lawPP_l0 {a b c : List Int} (h : hv a b c = true) {p : List Int} (hp : Pth a.length a b (distM a b c) p 0) (hpl : p.length ≤ 100) : ∀ (d i k : Nat), i ≤ p.length → p.length - i = d → d + 100 < k → laws_FnPathParts.l0 k p (i : Int) a b c = some true := by
  have hn := hp.ne
  intro d
  induction d with
  | zero =>
    intro i k hi hd hk
    obtain ⟨k, rfl⟩ : ∃ m, k = m + 1 := ⟨k - 1, by omega⟩
    rw [laws_FnPathParts.l0, if_neg (by omega), decide_eq_true (by omega)]
  | succ d ih =>
    intro i k hi hd hk
    obtain ⟨k, rfl⟩ : ∃ m, k = m + 1 := ⟨k - 1, by omega⟩
    have hlt : i < p.length := by omega
    obtain ⟨c0, c1, c2⟩ := hp.cell i hlt
    have hc : cellM a b c (rd p (i : Int)) = true := cellM_iff.2 ⟨h, c0, c1⟩
    have c3 : rd (distM a b c) (rd p (i : Int)) = (i : Int) + 1 := by rw [c2]; omega
    have hd2 : doM a b c (rd p (i : Int)) = ((i : Int) + 1, true) := by unfold doM; rw [if_pos hc, if_neg (by omega), c3]
    have e1 : ((i : Int) + 1, true).1 = wrap64 ((i : Int) + 1) := by rw [wrap_succ hlt (by omega)]; exact (Int.natCast_succ i).symm
    rw [laws_FnPathParts.l0, if_pos (by omega), if_pos (by omega), implDO_tells _ _ _ _ _ (by omega), hd2, Option.bind_some, if_pos (show ((i : Int) + 1, true).2 = true from rfl), if_pos e1, wrap_succ hlt (by omega)]
    clear e1
    exact ih (i + 1) k (by omega) (by omega) (by omega)
theorem pure_FnPathParts (code : List Int) (_hl : code.length ≤ 9223372036854775807) (hb : ∀ x ∈ code, 0 ≤ x ∧ x ≤ 255) : ∃ k, laws_FnPathParts.f k code = some true := by
  refine ⟨1048600, ?_⟩
  obtain ⟨k, hk⟩ : ∃ k : Nat, k = 1048599 := ⟨_, rfl⟩
  rw [show 1048600 = k + 1 from by omega]
  unfold laws_FnPathParts.f
  by_cases h0 : (code.length : Int) > 1048576
  · rw [if_pos h0]
  rw [if_neg h0]
  obtain ⟨a, b, c, x, e, hs⟩ := l2case_tells (code := code) hb (k + 1) (by omega)
  have e' : spec_DrawPathTo.f (k + 1) code = some (a, b, c, x) := by unfold spec_DrawPathTo.f; rw [e]; rfl
  have hl := pathM_len a b c x
  rw [e']
  simp only [Option.bind_some]
  rw [implPA_tells a b c x _ (by omega), specPA_tells a b c x _ (by omega)]
  simp only [Option.bind_some]
  rw [ccInts_tells _ _ _ (by omega) (by omega)]
  simp only [Option.bind_some]
  rw [if_pos (by simp), if_neg (by simp), laws_FnPathParts.j0]
  by_cases h : (pathM a b c x).2 = true
  · obtain ⟨hc, hd⟩ := pathM_none h
    obtain ⟨L, e2, hp, hL, _⟩ := pathM_spec hc hd
    have hl' : L.length ≤ 10 := by rw [e2] at hl; exact hl
    rw [e2]
    simp only [Bool.not_true]
    rw [if_neg Bool.false_ne_true]
    exact lawPP_l0 (cellM_iff.1 hc).1 hp (Nat.le_trans hl' (by omega)) L.length 0 k (by omega) (by omega) (by omega)
  · rw [Bool.eq_false_iff.2 h, if_pos (by simp), ccInts_tells _ _ _ (by omega) (by omega)]
    simp
end Go.Proofs.Ytghgpinhghhlgaa.A
