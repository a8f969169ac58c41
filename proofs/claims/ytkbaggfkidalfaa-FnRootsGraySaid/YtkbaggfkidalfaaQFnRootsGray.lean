/- Plain laws on lists and numbers, for FnRootsGray. No conditions beyond those stated. -/
import Derived.Test.YtkbaggfkidalfaaCLawsFnRootsGray
import Derived.Test.YtkbaggfkidalfaaPBase
import Derived.Test.YtkbaggfkidalfaaA0
import Derived.Test.YtkbaggfkidalfaaAImplCountColor
import Derived.Test.YtkbaggfkidalfaaAImplColoredValid
import Derived.Test.YtkbaggfkidalfaaAImplColorsOk
import Derived.Test.YtkbaggfkidalfaaAImplHeapValid
import Derived.Test.YtkbaggfkidalfaaASpecHeapValid
import Derived.Test.YtkbaggfkidalfaaASpecL1Points
import Derived.Test.YtkbaggfkidalfaaAImplDistanceOf
import Derived.Test.YtkbaggfkidalfaaAImplDistances
import Derived.Test.YtkbaggfkidalfaaAImplHas
import Derived.Test.YtkbaggfkidalfaaASpecL1Draw
import Derived.Test.YtkbaggfkidalfaaASpecL1Many
import Derived.Test.YtkbaggfkidalfaaASpecNewHeap
import Derived.Test.YtkbaggfkidalfaaASpecL13Open
import Derived.Test.YtkbaggfkidalfaaASpecL13RdNum
import Derived.Test.YtkbaggfkidalfaaASpecL13RdPick
import Derived.Test.YtkbaggfkidalfaaASpecDrawNewColored
import Derived.Test.YtkbaggfkidalfaaASpecDrawHeapValid
import Derived.Test.YtkbaggfkidalfaaASpecL1Wrong
import Derived.Test.YtkbaggfkidalfaaASpecL1Copy
import Derived.Test.YtkbaggfkidalfaaAImplNewColored
import Derived.Test.YtkbaggfkidalfaaAImplCopied
import Derived.Test.YtkbaggfkidalfaaASlicesCloneIntInt
import Derived.Test.YtkbaggfkidalfaaASpecNewColored
import Derived.Test.YtkbaggfkidalfaaAImplColoredSame
import Derived.Test.YtkbaggfkidalfaaASlicesEqualIntInt
import Derived.Test.YtkbaggfkidalfaaAImplHeapSame
import Derived.Test.YtkbaggfkidalfaaAImplShadeRoots
import Derived.Test.YtkbaggfkidalfaaAImplFresh
import Derived.Test.YtkbaggfkidalfaaAImplShade
namespace Go.Proofs.Ytkbaggfkidalfaa.A
open Go.RowKit Go.Proofs.YtkbaggfkidalfaaW.PrintWords Go.Proofs.YtkbaggfkidalfaaW.PrintLast Go.Proofs.YtkbaggfkidalfaaW.PrintMore
attribute [local go_sem] max2_int min2_int max_two min_two max_three min_three max_four min_four   -- for this text's walks alone
set_option linter.unusedVariables false
set_option linter.unusedSimpArgs false
/-- A pointer of a heap of n cells. -/
def okp (n : Nat) (x : Int) : Bool := decide (-1 ≤ x ∧ x < (n : Int))
def hv (a b c : List Int) : Bool := decide (a.length = b.length ∧ 1 ≤ a.length ∧ a.length ≤ 8 ∧ 1 ≤ c.length ∧ c.length ≤ 3) && (a.all (okp a.length) && (b.all (okp a.length) && c.all (okp a.length)))
theorem hv_len {a b c : List Int} (h : hv a b c = true) : a.length = b.length ∧ 1 ≤ a.length ∧ a.length ≤ 8 ∧ 1 ≤ c.length ∧ c.length ≤ 3 := by
  unfold hv at h
  rw [Bool.and_eq_true] at h
  exact of_decide_eq_true h.1
theorem okp_iff {n : Nat} {x : Int} : okp n x = true ↔ -1 ≤ x ∧ x < (n : Int) := by unfold okp; exact decide_eq_true_iff
theorem hv_iff {a b c : List Int} : hv a b c = true ↔ (a.length = b.length ∧ 1 ≤ a.length ∧ a.length ≤ 8 ∧ 1 ≤ c.length ∧ c.length ≤ 3) ∧ (∀ x ∈ a, -1 ≤ x ∧ x < (a.length : Int)) ∧ (∀ x ∈ b, -1 ≤ x ∧ x < (a.length : Int)) ∧ (∀ x ∈ c, -1 ≤ x ∧ x < (a.length : Int)) := by
  unfold hv
  simp only [Bool.and_eq_true, decide_eq_true_eq, List.all_eq_true, okp_iff]
theorem all_drop_cons (p : Int → Bool) (l : List Int) (n : Nat) (h : n < l.length) : (l.drop n).all p = (p (rd l (n : Int)) && (l.drop (n + 1)).all p) := by
  rw [drop_rd l n h, List.all_cons]
theorem all_drop_nil (p : Int → Bool) (l : List Int) (n : Nat) (h : l.length ≤ n) : (l.drop n).all p = true := by
  rw [List.drop_eq_nil_of_le h, List.all_nil]
/-- A cell of a valid heap. -/
def cellM (a b c : List Int) (x : Int) : Bool := hv a b c && decide (0 ≤ x ∧ x < (a.length : Int))
theorem cellM_iff {a b c : List Int} {x : Int} : cellM a b c x = true ↔ hv a b c = true ∧ 0 ≤ x ∧ x < (a.length : Int) := by
  unfold cellM; simp
/-- How many are not -1. -/
def cnt (l : List Int) : Nat := l.countP (fun x => decide (x ≠ -1))
/-- How many numbers are negative. -/
def negs : List Int → Nat
  | [] => 0
  | x :: l => (if x < 0 then 1 else 0) + negs l
theorem negs_rep (n : Nat) : negs (List.replicate n (-1)) = n := by
  induction n with
  | zero => rfl
  | succ n ih => rw [List.replicate_succ, negs, ih, if_pos (by omega)]; omega
theorem negs_set : ∀ (l : List Int) (i : Nat) (v : Int), i < l.length → l.getD i 0 < 0 → 0 ≤ v → negs (l.set i v) + 1 = negs l
  | [], i, v, h, _, _ => absurd h (by simp)
  | x :: l, 0, v, h, h2, h3 => by
    have h2' : x < 0 := h2
    rw [List.set_cons_zero, negs, negs, if_neg (by omega), if_pos h2']; omega
  | x :: l, i + 1, v, h, h2, h3 => by
    have := negs_set l i v (by simpa using h) (by simpa using h2) h3
    rw [List.set_cons_succ, negs, negs]; omega
/-- A pointer is met: the cells' distances, the cells met so far. -/
def bm (s : List Int × List Int) (p far : Int) : List Int × List Int := if p ≠ -1 ∧ rd s.1 p < 0 then (s.1.set p.toNat far, s.2 ++ [p]) else s
def bstep (a b : List Int) (s : List Int × List Int) (i : Int) : List Int × List Int :=
  bm (bm s (rd a (rd s.2 i)) (rd s.1 (rd s.2 i) + 1)) (rd b (rd s.2 i)) (rd s.1 (rd s.2 i) + 1)
def broots (c : List Int) (s : List Int × List Int) : List Int × List Int := c.foldl (fun s p => bm s p 1) s
def bloop (a b : List Int) : Nat → Nat → List Int × List Int → List Int × List Int
  | 0, _, s => s
  | m + 1, i, s => if i < s.2.length then bloop a b m (i + 1) (bstep a b s (i : Int)) else s
def bstart (n : Nat) : List Int × List Int := (List.replicate n (-1), [])
/-- The distances of all cells from some cells, or -1. -/
def distM (a b c : List Int) : List Int := (bloop a b (a.length + 1) 0 (broots c (bstart a.length))).1
structure Binv (n : Nat) (s : List Int × List Int) : Prop where
  len : s.1.length = n
  op : ∀ x ∈ s.2, 0 ≤ x ∧ x < (n : Int) ∧ 1 ≤ rd s.1 x
  val : ∀ x : Int, 0 ≤ x → x < (n : Int) → rd s.1 x = -1 ∨ (1 ≤ rd s.1 x ∧ rd s.1 x ≤ (s.2.length : Int))
  cnt : s.2.length + negs s.1 = n
theorem Binv.le {n : Nat} {s : List Int × List Int} (h : Binv n s) : s.2.length ≤ n := by have := h.cnt; omega
theorem rd_rep (n : Nat) (v x : Int) (h0 : 0 ≤ x) (h : x < (n : Int)) : rd (List.replicate n v) x = v := by
  unfold rd; rw [List.getD_eq_getElem?_getD, List.getElem?_replicate, if_pos (by omega)]; rfl
theorem bstart_inv (n : Nat) : Binv n (bstart n) := by
  refine ⟨by simp [bstart], fun x hx => absurd hx (by simp [bstart]), fun x h0 h1 => Or.inl ?_, by simp [bstart, negs_rep]⟩
  exact rd_rep n (-1) x h0 h1
theorem bm_inv {n : Nat} {s : List Int × List Int} (h : Binv n s) {p far : Int} (hp : p = -1 ∨ (0 ≤ p ∧ p < (n : Int))) (h1 : 1 ≤ far) (h2 : far ≤ (s.2.length : Int) + 1) : Binv n (bm s p far) := by
  unfold bm
  by_cases c : p ≠ -1 ∧ rd s.1 p < 0
  · rw [if_pos c]
    obtain ⟨hp0, hp1⟩ : 0 ≤ p ∧ p < (n : Int) := hp.resolve_left c.1
    have hl := h.len
    refine ⟨by simp [hl], fun x hx => ?_, fun x h0 hx => ?_, ?_⟩
    · rcases List.mem_append.1 hx with hx | hx
      · obtain ⟨a0, a1, a2⟩ := h.op x hx
        refine ⟨a0, a1, ?_⟩
        show 1 ≤ rd (s.1.set p.toNat far) x
        by_cases e : p = x
        · subst e; rw [rd_set_eq _ _ _ a0 (by omega)]; exact h1
        · rw [rd_set_ne _ _ _ _ hp0 a0 e]; exact a2
      · obtain rfl : x = p := by simpa using hx
        refine ⟨hp0, hp1, ?_⟩
        show 1 ≤ rd (s.1.set x.toNat far) x
        rw [rd_set_eq _ _ _ hp0 (by omega)]; exact h1
    · show rd (s.1.set p.toNat far) x = -1 ∨ (1 ≤ rd (s.1.set p.toNat far) x ∧ rd (s.1.set p.toNat far) x ≤ ((s.2 ++ [p]).length : Int))
      have el : ((s.2 ++ [p]).length : Int) = (s.2.length : Int) + 1 := by simp
      rw [el]
      by_cases e : p = x
      · subst e; rw [rd_set_eq _ _ _ h0 (by omega)]; exact Or.inr ⟨h1, h2⟩
      · rw [rd_set_ne _ _ _ _ hp0 h0 e]
        rcases h.val x h0 hx with v | v
        · exact Or.inl v
        · exact Or.inr ⟨v.1, by omega⟩
    · show (s.2 ++ [p]).length + negs (s.1.set p.toNat far) = n
      have := negs_set s.1 p.toNat far (by omega) c.2 (by omega)
      have := h.cnt
      simp; omega
  · rw [if_neg c]; exact h
theorem bm_keep {n : Nat} {s : List Int × List Int} (h : Binv n s) {p far : Int} (hp : p = -1 ∨ (0 ≤ p ∧ p < (n : Int))) {x : Int} (h0 : 0 ≤ x) (hx : 1 ≤ rd s.1 x) : rd (bm s p far).1 x = rd s.1 x := by
  unfold bm
  by_cases c : p ≠ -1 ∧ rd s.1 p < 0
  · rw [if_pos c]
    obtain ⟨hp0, hp1⟩ : 0 ≤ p ∧ p < (n : Int) := hp.resolve_left c.1
    exact rd_set_ne _ _ _ _ hp0 h0 (fun e => by subst e; omega)
  · rw [if_neg c]
theorem bm_len (s : List Int × List Int) (p far : Int) : s.2.length ≤ (bm s p far).2.length := by unfold bm; split <;> simp
theorem okp_ptr {n : Nat} {l : List Int} (h : ∀ x ∈ l, -1 ≤ x ∧ x < (n : Int)) {i : Int} (h0 : 0 ≤ i) (h1 : i < (l.length : Int)) : rd l i = -1 ∨ (0 ≤ rd l i ∧ rd l i < (n : Int)) := by
  have := h _ (rd_mem l i h0 h1); omega
theorem bstep_inv {n : Nat} {a b : List Int} (ha : a.length = n) (hb : b.length = n) (ga : ∀ x ∈ a, -1 ≤ x ∧ x < (n : Int)) (gb : ∀ x ∈ b, -1 ≤ x ∧ x < (n : Int)) {s : List Int × List Int} (h : Binv n s) {i : Int} (h0 : 0 ≤ i) (h1 : i < (s.2.length : Int)) : Binv n (bstep a b s i) := by
  have hc := h.op _ (rd_mem s.2 i h0 h1)
  have hv : 1 ≤ rd s.1 (rd s.2 i) ∧ rd s.1 (rd s.2 i) ≤ (s.2.length : Int) := by
    rcases h.val _ hc.1 hc.2.1 with v | v
    · omega
    · exact v
  have i1 := bm_inv h (p := rd a (rd s.2 i)) (far := rd s.1 (rd s.2 i) + 1) (okp_ptr ga hc.1 (by omega)) (by omega) (by omega)
  exact bm_inv i1 (okp_ptr gb hc.1 (by omega)) (by omega) (by have := bm_len s (rd a (rd s.2 i)) (rd s.1 (rd s.2 i) + 1); omega)
theorem bstep_len (a b : List Int) (s : List Int × List Int) (i : Int) : s.2.length ≤ (bstep a b s i).2.length := Nat.le_trans (bm_len _ _ _) (bm_len _ _ _)
theorem broots_inv {n : Nat} : ∀ (c : List Int) (s : List Int × List Int), (∀ x ∈ c, -1 ≤ x ∧ x < (n : Int)) → Binv n s → Binv n (broots c s)
  | [], s, _, h => h
  | p :: c, s, hc, h => broots_inv c (bm s p 1) (fun x hx => hc x (by simp [hx])) (bm_inv h (by have := hc p (by simp); omega) (by omega) (by omega))
theorem bloop_inv {n : Nat} {a b : List Int} (ha : a.length = n) (hb : b.length = n) (ga : ∀ x ∈ a, -1 ≤ x ∧ x < (n : Int)) (gb : ∀ x ∈ b, -1 ≤ x ∧ x < (n : Int)) : ∀ (m i : Nat) (s : List Int × List Int), Binv n s → Binv n (bloop a b m i s)
  | 0, _, _, h => h
  | m + 1, i, s, h => by
    rw [bloop]
    split
    · exact bloop_inv ha hb ga gb m (i + 1) _ (bstep_inv ha hb ga gb h (by omega) (by omega))
    · exact h
theorem distM_inv {a b c : List Int} (hb : b.length = a.length) (ga : ∀ x ∈ a, -1 ≤ x ∧ x < (a.length : Int)) (gb : ∀ x ∈ b, -1 ≤ x ∧ x < (a.length : Int)) (gc : ∀ x ∈ c, -1 ≤ x ∧ x < (a.length : Int)) : Binv a.length (bloop a b (a.length + 1) 0 (broots c (bstart a.length))) :=
  bloop_inv rfl hb ga gb _ _ _ (broots_inv c _ gc (bstart_inv _))
/-- What a valid heap gives for the distances. -/
theorem hv_a {a b c : List Int} (h : hv a b c = true) : ∀ x ∈ a, -1 ≤ x ∧ x < (a.length : Int) := (hv_iff.1 h).2.1
theorem hv_b {a b c : List Int} (h : hv a b c = true) : ∀ x ∈ b, -1 ≤ x ∧ x < (a.length : Int) := (hv_iff.1 h).2.2.1
theorem hv_c {a b c : List Int} (h : hv a b c = true) : ∀ x ∈ c, -1 ≤ x ∧ x < (a.length : Int) := (hv_iff.1 h).2.2.2
def doM (a b c : List Int) (x : Int) : Int × Bool := if cellM a b c x = true then (if rd (distM a b c) x < 0 then (0, false) else (rd (distM a b c) x, true)) else (0, false)
theorem distM_len {a b c : List Int} (hb : b.length = a.length) (ga : ∀ x ∈ a, -1 ≤ x ∧ x < (a.length : Int)) (gb : ∀ x ∈ b, -1 ≤ x ∧ x < (a.length : Int)) (gc : ∀ x ∈ c, -1 ≤ x ∧ x < (a.length : Int)) : (distM a b c).length = a.length := (distM_inv hb ga gb gc).len
theorem distM_val {a b c : List Int} (hb : b.length = a.length) (ga : ∀ x ∈ a, -1 ≤ x ∧ x < (a.length : Int)) (gb : ∀ x ∈ b, -1 ≤ x ∧ x < (a.length : Int)) (gc : ∀ x ∈ c, -1 ≤ x ∧ x < (a.length : Int)) {x : Int} (h0 : 0 ≤ x) (h1 : x < (a.length : Int)) : rd (distM a b c) x = -1 ∨ 1 ≤ rd (distM a b c) x := by
  rcases (distM_inv hb ga gb gc).val x h0 h1 with h | h
  · exact Or.inl h
  · exact Or.inr h.1
def okc (x : Int) : Bool := decide (0 ≤ x ∧ x ≤ 2)
def cv (a b c e : List Int) : Bool := hv a b c && (e.all okc && decide (e.length = a.length))
theorem okc_iff {x : Int} : okc x = true ↔ 0 ≤ x ∧ x ≤ 2 := by unfold okc; exact decide_eq_true_iff
theorem cv_iff {a b c e : List Int} : cv a b c e = true ↔ hv a b c = true ∧ (∀ x ∈ e, 0 ≤ x ∧ x ≤ 2) ∧ e.length = a.length := by
  unfold cv
  simp only [Bool.and_eq_true, decide_eq_true_eq, List.all_eq_true, okc_iff]
/-- How often x stands in a list. -/
def ccnt (x : Int) : List Int → Nat
  | [] => 0
  | y :: l => (if y = x then 1 else 0) + ccnt x l
theorem ccnt_drop (x : Int) (l : List Int) (i : Nat) (h : i < l.length) : ccnt x (l.drop i) = (if rd l (i : Int) = x then 1 else 0) + ccnt x (l.drop (i + 1)) := by
  rw [drop_rd l i h, ccnt]
theorem ccnt_nil (x : Int) (l : List Int) (i : Nat) (h : l.length ≤ i) : ccnt x (l.drop i) = 0 := by
  rw [List.drop_eq_nil_of_le h, ccnt]
def ccM (a b c e : List Int) (x : Int) : Int := if cv a b c e = true then ((ccnt x e : Nat) : Int) else 0
theorem l1Points_tells (x : Int) (n : Nat) : spec_l1Points.f x (n : Int) = some (okp n x) := by
  unfold spec_l1Points.f okp
  by_cases h : x ≥ -1
  · rw [if_pos h]; congr 1; simp; omega
  · rw [if_neg h]; congr 1; exact (decide_eq_false (fun h2 => h h2.1)).symm
theorem specHV_l1 (a b c : List Int) (n : Nat) (hl : c.length ≤ 3) : ∀ (d i k : Nat), i ≤ c.length → c.length - i = d → d < k →
    spec_HeapValid.l1 k (n : Int) (i : Int) a b c = some ((c.drop i).all (okp n)) := by
  intro d
  induction d with
  | zero =>
    intro i k hi hd hk
    obtain ⟨k, rfl⟩ : ∃ m, k = m + 1 := ⟨k - 1, by omega⟩
    rw [spec_HeapValid.l1, if_neg (by omega), all_drop_nil _ _ _ (by omega)]
  | succ d ih =>
    intro i k hi hd hk
    obtain ⟨k, rfl⟩ : ∃ m, k = m + 1 := ⟨k - 1, by omega⟩
    have hlt : i < c.length := by omega
    rw [spec_HeapValid.l1, if_pos (by omega), if_pos (by omega), l1Points_tells, all_drop_cons _ _ _ hlt, wrap_succ hlt (by omega)]
    simp only [Option.bind_some]
    cases h : okp n (rd c (i : Int)) with
    | true => rw [if_pos rfl, ih (i + 1) k (by omega) (by omega) (by omega), Bool.true_and]
    | false => rw [if_neg (by simp), Bool.false_and]
theorem specHV_l0 (a b c : List Int) (hl : c.length ≤ 3) (ha : a.length ≤ 8) (hb : b.length = a.length) : ∀ (d i k : Nat), i ≤ a.length → a.length - i = d → d + 5 < k →
    spec_HeapValid.l0 k (a.length : Int) (i : Int) a b c = some ((a.drop i).all (okp a.length) && ((b.drop i).all (okp a.length) && c.all (okp a.length))) := by
  intro d
  induction d with
  | zero =>
    intro i k hi hd hk
    obtain ⟨k, rfl⟩ : ∃ m, k = m + 1 := ⟨k - 1, by omega⟩
    rw [spec_HeapValid.l0, if_neg (by omega), all_drop_nil _ _ _ (by omega), all_drop_nil _ _ _ (by omega)]
    have := specHV_l1 a b c a.length hl c.length 0 k (by omega) (by omega) (by omega)
    simp only [List.drop_zero] at this
    rw [Bool.true_and, Bool.true_and]
    exact this
  | succ d ih =>
    intro i k hi hd hk
    obtain ⟨k, rfl⟩ : ∃ m, k = m + 1 := ⟨k - 1, by omega⟩
    have hlt : i < a.length := by omega
    have hlt2 : i < b.length := by omega
    rw [spec_HeapValid.l0, if_pos (by omega), if_pos (by omega), if_pos (by omega), l1Points_tells, all_drop_cons _ a _ hlt, all_drop_cons _ b _ hlt2]
    simp only [Option.bind_some]
    cases h : okp a.length (rd a (i : Int)) with
    | false => rw [if_neg (by simp), Bool.false_and, Bool.false_and]
    | true =>
      rw [if_pos rfl, if_pos (by omega), l1Points_tells, wrap_succ hlt (by omega)]
      simp only [Option.bind_some]
      cases h2 : okp a.length (rd b (i : Int)) with
      | false => rw [if_neg (by simp), Bool.false_and, Bool.false_and, Bool.and_false]
      | true => rw [if_pos rfl, ih (i + 1) k (by omega) (by omega) (by omega), Bool.true_and, Bool.true_and]
theorem hv_false {a b c : List Int} (h : ¬ (a.length = b.length ∧ 1 ≤ a.length ∧ a.length ≤ 8 ∧ 1 ≤ c.length ∧ c.length ≤ 3)) : hv a b c = false := by
  unfold hv; rw [decide_eq_false h, Bool.false_and]
theorem specHV_tells (a b c : List Int) (k : Nat) (hk : 40 ≤ k) : spec_HeapValid.f k a b c = some (hv a b c) := by
  unfold spec_HeapValid.f
  obtain ⟨k, rfl⟩ : ∃ m, k = m + 1 := ⟨k - 1, by omega⟩
  have hj : ∀ n : Int, spec_HeapValid.j0 (k + 1) n true a b c = some false := fun n => by rw [spec_HeapValid.j0, if_pos rfl]
  by_cases h1 : (a.length : Int) < 1
  · rw [if_pos h1, hj, hv_false (by omega)]
  rw [if_neg h1]
  by_cases h2 : (a.length : Int) > 8
  · rw [if_pos h2, hj, hv_false (by omega)]
  rw [if_neg h2]
  by_cases h3 : (b.length : Int) = (a.length : Int)
  · rw [if_pos h3]
    by_cases h4 : (c.length : Int) < 1
    · rw [if_pos h4, hj, hv_false (by omega)]
    rw [if_neg h4]
    by_cases h5 : (c.length : Int) > 3
    · rw [decide_eq_true h5, hj, hv_false (by omega)]
    rw [decide_eq_false h5, spec_HeapValid.j0, if_neg (by simp)]
    have := specHV_l0 a b c (by omega) (by omega) (by omega) a.length 0 k (by omega) (by omega) (by omega)
    simp only [List.drop_zero] at this
    refine this.trans ?_
    unfold hv
    rw [decide_eq_true (show a.length = b.length ∧ 1 ≤ a.length ∧ a.length ≤ 8 ∧ 1 ≤ c.length ∧ c.length ≤ 3 by omega), Bool.true_and]
  · rw [if_neg h3, hj, hv_false (by omega)]
theorem implHV_l1 (y : List (List Int)) (xs a b c : List Int) (i : Int) (h0 : -9223372036854775808 ≤ i) (h9 : i ≤ 9223372036854775806) (hl : xs.length ≤ 9223372036854775807) : ∀ (d j m : Nat), j ≤ xs.length → xs.length - j = d →
    impl_HeapValid.l1 (m + d + 1) y 3 i xs (xs.length : Int) (j : Int) a b c = if (xs.drop j).all (okp a.length) = true then impl_HeapValid.l0 m y 3 (i + 1) a b c else some false := by
  intro d
  induction d with
  | zero =>
    intro j m hj hd
    rw [impl_HeapValid.l1, if_neg (by omega), all_drop_nil _ _ _ (by omega), if_pos rfl, wrap_id (by omega) (by omega)]
  | succ d ih =>
    intro j m hj hd
    have hlt : j < xs.length := by omega
    rw [impl_HeapValid.l1, if_pos (by omega), if_pos (by omega), if_pos (by omega), all_drop_cons _ xs _ hlt, wrap_succ hlt hl]
    by_cases h1 : rd xs (j : Int) < -1
    · have : okp a.length (rd xs (j : Int)) = false := by unfold okp; exact decide_eq_false (by omega)
      rw [if_pos h1, this, Bool.false_and, if_neg (by simp)]
    · rw [if_neg h1]
      by_cases h2 : rd xs (j : Int) ≥ (a.length : Int)
      · have : okp a.length (rd xs (j : Int)) = false := by unfold okp; exact decide_eq_false (by omega)
        rw [if_pos h2, this, Bool.false_and, if_neg (by simp)]
      · have : okp a.length (rd xs (j : Int)) = true := by unfold okp; exact decide_eq_true (by omega)
        rw [if_neg h2, this, Bool.true_and]
        exact ih (j + 1) m (by omega) (by omega)
theorem implHV_l0 (a b c : List Int) (m : Nat) (hb : b.length ≤ 8) (ha : a.length ≤ 8) (hc : c.length ≤ 8) :
    impl_HeapValid.l0 (m + 1 + (c.length + 1) + 1 + (b.length + 1) + 1 + (a.length + 1) + 1) [a, b, c] 3 0 a b c = some (a.all (okp a.length) && (b.all (okp a.length) && c.all (okp a.length))) := by
  have e0 : rd_L1 [a, b, c] 0 = a := rfl
  have e1 : rd_L1 [a, b, c] 1 = b := rfl
  have e2 : rd_L1 [a, b, c] 2 = c := rfl
  rw [impl_HeapValid.l0, if_pos (by omega), if_pos (by omega), if_pos (by simp), e0]
  have s0 := implHV_l1 [a, b, c] a a b c 0 (by omega) (by omega) (by omega) a.length 0 (m + 1 + (c.length + 1) + 1 + (b.length + 1) + 1) (by omega) (by omega)
  simp only [List.drop_zero] at s0
  refine Eq.trans s0 ?_
  cases hA : a.all (okp a.length) with
  | false => rfl
  | true =>
    rw [if_pos rfl, Bool.true_and]
    rw [impl_HeapValid.l0, if_pos (by omega), if_pos (by omega), if_pos (by simp), show (0 : Int) + 1 = 1 from rfl, e1]
    have s1 := implHV_l1 [a, b, c] b a b c 1 (by omega) (by omega) (by omega) b.length 0 (m + 1 + (c.length + 1) + 1) (by omega) (by omega)
    simp only [List.drop_zero] at s1
    refine Eq.trans s1 ?_
    cases hB : b.all (okp a.length) with
    | false => rfl
    | true =>
      rw [if_pos rfl, Bool.true_and]
      rw [impl_HeapValid.l0, if_pos (by omega), if_pos (by omega), if_pos (by simp), show (1 : Int) + 1 = 2 from rfl, e2]
      have s2 := implHV_l1 [a, b, c] c a b c 2 (by omega) (by omega) (by omega) c.length 0 (m + 1) (by omega) (by omega)
      simp only [List.drop_zero] at s2
      refine Eq.trans s2 ?_
      cases hC : c.all (okp a.length) with
      | false => rfl
      | true => rw [if_pos rfl, impl_HeapValid.l0, if_neg (by omega)]
theorem implHV_tells (a b c : List Int) (k : Nat) (hk : 60 ≤ k) : impl_HeapValid.f k a b c = some (hv a b c) := by
  unfold impl_HeapValid.f
  obtain ⟨k, rfl⟩ : ∃ m, k = m + 1 := ⟨k - 1, by omega⟩
  have hj : impl_HeapValid.j0 (k + 1) true a b c = some false := by rw [impl_HeapValid.j0, if_pos rfl]
  by_cases h1 : (a.length : Int) = (b.length : Int)
  · rw [if_pos h1]
    by_cases h2 : (a.length : Int) < 1
    · rw [if_pos h2, hj, hv_false (by omega)]
    rw [if_neg h2]
    by_cases h3 : (a.length : Int) > 8
    · rw [if_pos h3, hj, hv_false (by omega)]
    rw [if_neg h3]
    by_cases h4 : (c.length : Int) < 1
    · rw [if_pos h4, hj, hv_false (by omega)]
    rw [if_neg h4]
    by_cases h5 : (c.length : Int) > 3
    · rw [decide_eq_true h5, hj, hv_false (by omega)]
    rw [decide_eq_false h5, impl_HeapValid.j0, if_neg (by simp)]
    simp only [Option.bind_some]
    obtain ⟨m, hm⟩ : ∃ m, k = m + 1 + (c.length + 1) + 1 + (b.length + 1) + 1 + (a.length + 1) + 1 := ⟨k - 1 - (c.length + 1) - 1 - (b.length + 1) - 1 - (a.length + 1) - 1, by omega⟩
    have := implHV_l0 a b c m (by omega) (by omega) (by omega)
    rw [← hm] at this
    refine Eq.trans this ?_
    unfold hv
    rw [decide_eq_true (show a.length = b.length ∧ 1 ≤ a.length ∧ a.length ≤ 8 ∧ 1 ≤ c.length ∧ c.length ≤ 3 by omega), Bool.true_and]
  · rw [if_neg h1, hj, hv_false (by omega)]
theorem colorsOk_l0 (x e : List Int) (n : Int) (hl : e.length ≤ 9223372036854775807) : ∀ (d i k : Nat), i ≤ e.length → e.length - i = d → d < k →
    impl_colorsOk.l0 k x n e (e.length : Int) (i : Int) = some ((e.drop i).all okc && ((x.length : Int) == n)) := by
  intro d
  induction d with
  | zero =>
    intro i k hi hd hk
    obtain ⟨k, rfl⟩ : ∃ m, k = m + 1 := ⟨k - 1, by omega⟩
    rw [impl_colorsOk.l0, if_neg (by omega), all_drop_nil _ _ _ (by omega), Bool.true_and]
  | succ d ih =>
    intro i k hi hd hk
    obtain ⟨k, rfl⟩ : ∃ m, k = m + 1 := ⟨k - 1, by omega⟩
    have hlt : i < e.length := by omega
    rw [impl_colorsOk.l0, if_pos (by omega), if_pos (by omega), if_pos (by omega), all_drop_cons _ _ _ hlt, wrap_succ hlt hl]
    by_cases h1 : rd e (i : Int) < 0
    · have : okc (rd e (i : Int)) = false := by unfold okc; exact decide_eq_false (by omega)
      rw [if_pos h1, this, Bool.false_and, Bool.false_and]
    · rw [if_neg h1]
      by_cases h2 : rd e (i : Int) > 2
      · have : okc (rd e (i : Int)) = false := by unfold okc; exact decide_eq_false (by omega)
        rw [if_pos h2, this, Bool.false_and, Bool.false_and]
      · have : okc (rd e (i : Int)) = true := by unfold okc; exact decide_eq_true (by omega)
        rw [if_neg h2, this, Bool.true_and]
        exact ih (i + 1) k (by omega) (by omega) (by omega)
theorem colorsOk_tells (e : List Int) (n : Nat) (k : Nat) (he : e.length ≤ 1048576) (hk : 1048600 ≤ k) : impl_colorsOk.f k e (n : Int) = some (e.all okc && decide (e.length = n)) := by
  unfold impl_colorsOk.f
  refine Eq.trans (colorsOk_l0 e e n (by omega) e.length 0 k (by omega) (by omega) (by omega)) ?_
  rw [List.drop_zero]
  congr 2
  rw [Bool.eq_iff_iff]; simp; omega
theorem implCV_tells (a b c e : List Int) (k : Nat) (he : e.length ≤ 1048576) (hk : 1048600 ≤ k) : impl_ColoredValid.f k a b c e = some (cv a b c e) := by
  unfold impl_ColoredValid.f cv
  rw [implHV_tells a b c k (by omega)]
  simp only [Option.bind_some]
  cases h : hv a b c with
  | false => rw [if_neg (by simp), Bool.false_and]
  | true => rw [if_pos rfl, Bool.true_and, colorsOk_tells e a.length k he hk]; rfl
theorem implCC_l0 (x : Int) (e : List Int) (he : e.length ≤ 1048576) : ∀ (d i k m : Nat), i ≤ e.length → e.length - i = d → d < k → m ≤ i →
    impl_CountColor.l0 k x (m : Int) e (e.length : Int) (i : Int) = some (((m + ccnt x (e.drop i) : Nat) : Int)) := by
  intro d
  induction d with
  | zero =>
    intro i k m hi hd hk hm
    obtain ⟨k, rfl⟩ : ∃ m, k = m + 1 := ⟨k - 1, by omega⟩
    rw [impl_CountColor.l0, if_neg (by omega), ccnt_nil _ _ _ (by omega), Nat.add_zero]
  | succ d ih =>
    intro i k m hi hd hk hm
    obtain ⟨k, rfl⟩ : ∃ m, k = m + 1 := ⟨k - 1, by omega⟩
    have hlt : i < e.length := by omega
    rw [impl_CountColor.l0, if_pos (by omega), if_pos (by omega), if_pos (by omega), ccnt_drop x e i hlt, wrap_succ hlt (by omega)]
    by_cases h : rd e (i : Int) = x
    · rw [if_pos h, if_pos h, wrap_succ (n := m) (m := e.length) (by omega) (by omega), ih (i + 1) k (m + 1) (by omega) (by omega) (by omega) (by omega)]
      congr 2; omega
    · rw [if_neg h, if_neg h, ih (i + 1) k m (by omega) (by omega) (by omega) (by omega)]
      congr 2; omega
theorem implCC_tells (a b c e : List Int) (x : Int) (k : Nat) (he : e.length ≤ 1048576) (hk : 1048600 ≤ k) : impl_CountColor.f k a b c e x = some (ccM a b c e x) := by
  unfold impl_CountColor.f ccM
  rw [implCV_tells a b c e k he hk]
  simp only [Option.bind_some]
  by_cases h : cv a b c e = true
  · rw [if_pos h, if_pos h]
    refine Eq.trans (implCC_l0 x e he e.length 0 k 0 (by omega) (by omega) (by omega) (by omega)) ?_
    rw [List.drop_zero, Nat.zero_add]
  · rw [if_neg h, if_neg h]
theorem ccM_pos {a b c e : List Int} (h : cv a b c e = true) (y : Int) : ccM a b c e y = ((ccnt y e : Nat) : Int) := by unfold ccM; rw [if_pos h]
/-- The distances where 0 says that there is none. -/
def zd (l : List Int) : List Int := l.map (fun x => if x < 0 then 0 else x)
theorem zd_len (l : List Int) : (zd l).length = l.length := by unfold zd; simp
theorem zd_rd (l : List Int) (x : Int) (h0 : 0 ≤ x) (h : x < (l.length : Int)) : rd (zd l) x = if rd l x < 0 then 0 else rd l x := by
  obtain ⟨n, rfl⟩ : ∃ n : Nat, x = (n : Int) := ⟨x.toNat, by omega⟩
  rw [rd_nat _ n (by rw [zd_len]; omega), rd_nat l n (by omega)]; unfold zd; simp
theorem zd_rep (n : Nat) : zd (List.replicate n (-1)) = List.replicate n 0 := by unfold zd; simp
theorem meetOut_bm {n : Nat} {s : List Int × List Int} (h : Binv n s) {p far : Int} (hp : p = -1 ∨ (0 ≤ p ∧ p < (n : Int))) (h1 : 1 ≤ far) : meetOut (zd s.1) p far = zd (bm s p far).1 ∧ meetOpen (zd s.1) s.2 p = (bm s p far).2 := by
  unfold meetOut meetOpen bm
  by_cases c1 : p = -1
  · rw [if_neg (by simp [c1]), if_neg (by simp [c1]), if_neg (by simp [c1])]; exact ⟨rfl, rfl⟩
  · obtain ⟨hp0, hp1⟩ := hp.resolve_left c1
    have hl := h.len
    have hz := zd_rd s.1 p hp0 (by omega)
    by_cases c2 : rd s.1 p < 0
    · rw [if_pos c2] at hz
      rw [if_pos (show p ≠ -1 ∧ rd (zd s.1) p = 0 from ⟨c1, hz⟩), if_pos (show p ≠ -1 ∧ rd (zd s.1) p = 0 from ⟨c1, hz⟩), if_pos (show p ≠ -1 ∧ rd s.1 p < 0 from ⟨c1, c2⟩)]
      refine ⟨?_, rfl⟩
      unfold zd
      rw [List.map_set, if_neg (by omega)]
    · rw [if_neg c2] at hz
      have hv := h.val p hp0 hp1
      have hn : ¬ (p ≠ -1 ∧ rd (zd s.1) p = 0) := by rw [hz]; intro hh; omega
      rw [if_neg hn, if_neg hn, if_neg (show ¬ (p ≠ -1 ∧ rd s.1 p < 0) from fun hh => c2 hh.2)]; exact ⟨rfl, rfl⟩
theorem meetOk_iff {n : Nat} {p : Int} (h : p = -1 ∨ (0 ≤ p ∧ p < (n : Int))) : meetOk n p = true := by unfold meetOk; exact decide_eq_true h
theorem implD_l0 (n : Nat) (hn : n ≤ 8) (a b r : List Int) (gr : ∀ x ∈ r, -1 ≤ x ∧ x < (n : Int)) (hr : r.length ≤ 1000) : ∀ (d i k : Nat) (s : List Int × List Int), Binv n s → i ≤ r.length → r.length - i = d →
    impl_distances.l0 (k + d + 1) (i : Int) (zd s.1) s.2 a b r = impl_distances.l1 k 0 (zd (broots (r.drop i) s).1) (broots (r.drop i) s).2 a b r := by
  intro d
  induction d with
  | zero =>
    intro i k s h hi hd
    rw [impl_distances.l0, if_neg (by omega), List.drop_eq_nil_of_le (by omega)]
    rfl
  | succ d ih =>
    intro i k s h hi hd
    have hlt : i < r.length := by omega
    have hp := okp_ptr gr (i := (i : Int)) (by omega) (by omega)
    have hl := h.len
    have hle := h.le
    have hm := meetOut_bm h hp (far := 1) (by omega)
    rw [show k + (d + 1) + 1 = (k + d + 1) + 1 from by omega, impl_distances.l0, if_pos (by omega), if_pos (by omega), if_pos (by rw [zd_len, hl]; exact meetOk_iff hp), if_pos (by omega), drop_rd r i hlt, wrap_succ hlt (by omega), hm.1, hm.2]
    exact ih (i + 1) k (bm s (rd r (i : Int)) 1) (bm_inv h hp (by omega) (by omega)) (by omega) (by omega)
theorem implD_l1 (n : Nat) (hn : n ≤ 8) (a b r : List Int) (ha : a.length = n) (hb : b.length = n) (ga : ∀ x ∈ a, -1 ≤ x ∧ x < (n : Int)) (gb : ∀ x ∈ b, -1 ≤ x ∧ x < (n : Int)) : ∀ (d i k : Nat) (s : List Int × List Int), Binv n s → i ≤ s.2.length → n - i = d → d < k →
    impl_distances.l1 k (i : Int) (zd s.1) s.2 a b r = some (zd (bloop a b (d + 1) i s).1) := by
  intro d
  induction d with
  | zero =>
    intro i k s h hi hd hk
    obtain ⟨k, rfl⟩ : ∃ m, k = m + 1 := ⟨k - 1, by omega⟩
    have hle := h.le
    rw [impl_distances.l1, if_neg (by omega), bloop, if_neg (by omega)]
  | succ d ih =>
    intro i k s h hi hd hk
    have hle := h.le
    have hl := h.len
    obtain ⟨k, rfl⟩ : ∃ m, k = m + 1 := ⟨k - 1, by omega⟩
    rw [bloop]
    by_cases c0 : i < s.2.length
    · have hc := h.op _ (rd_mem s.2 (i : Int) (by omega) (by omega))
      have hv : 1 ≤ rd s.1 (rd s.2 (i : Int)) ∧ rd s.1 (rd s.2 (i : Int)) ≤ (s.2.length : Int) := by
        rcases h.val _ hc.1 hc.2.1 with v | v
        · omega
        · exact v
      have hpa := okp_ptr ga hc.1 (by omega)
      have hpb := okp_ptr gb hc.1 (by omega)
      have i1 := bm_inv h (p := rd a (rd s.2 (i : Int))) (far := rd s.1 (rd s.2 (i : Int)) + 1) hpa (by omega) (by omega)
      have k1 := bm_keep h (p := rd a (rd s.2 (i : Int))) (far := rd s.1 (rd s.2 (i : Int)) + 1) hpa hc.1 (by omega)
      have l1 := bm_len s (rd a (rd s.2 (i : Int))) (rd s.1 (rd s.2 (i : Int)) + 1)
      have hw : wrap64 (rd s.1 (rd s.2 (i : Int)) + 1) = rd s.1 (rd s.2 (i : Int)) + 1 := wrap_id (by omega) (by omega)
      have hm1 := meetOut_bm h hpa (far := rd s.1 (rd s.2 (i : Int)) + 1) (by omega)
      have z0 : rd (zd s.1) (rd s.2 (i : Int)) = rd s.1 (rd s.2 (i : Int)) := by rw [zd_rd _ _ hc.1 (by omega), if_neg (by omega)]
      rw [if_pos c0, ← ih (i + 1) k (bstep a b s (i : Int)) (bstep_inv ha hb ga gb h (by omega) (by omega)) (by have := bstep_len a b s (i : Int); omega) (by omega) (by omega)]
      rw [impl_distances.l1, if_pos (by omega), if_pos (by omega), if_pos hc.1, if_pos (by omega), if_pos (by omega), if_pos (by rw [zd_len]; omega), zd_len, hl, if_pos (meetOk_iff hpa), if_pos (meetOk_iff hpb), if_pos (by omega), z0, hw, hm1.1, hm1.2]
      unfold bstep
      generalize bm s (rd a (rd s.2 (i : Int))) (rd s.1 (rd s.2 (i : Int)) + 1) = s1 at i1 k1 l1 ⊢
      have hm2 := meetOut_bm i1 hpb (far := rd s.1 (rd s.2 (i : Int)) + 1) (by omega)
      have l1n := i1.len
      have z1 : rd (zd s1.1) (rd s.2 (i : Int)) = rd s.1 (rd s.2 (i : Int)) := by rw [zd_rd _ _ hc.1 (by omega), k1, if_neg (by omega)]
      rw [z1, hw, hm2.1, hm2.2, wrap_succ c0 (by omega)]
    · rw [if_neg c0, impl_distances.l1, if_neg (by omega)]
theorem implD_tells (a b r : List Int) (ha : a.length ≤ 8) (hb : b.length = a.length) (ga : ∀ x ∈ a, -1 ≤ x ∧ x < (a.length : Int)) (gb : ∀ x ∈ b, -1 ≤ x ∧ x < (a.length : Int)) (gr : ∀ x ∈ r, -1 ≤ x ∧ x < (a.length : Int)) (hr : r.length ≤ 1000) :
    impl_distances.f a b r = some (zd (distM a b r)) := by
  unfold impl_distances.f
  rw [if_pos ⟨ha, hr⟩]
  obtain ⟨k, hk⟩ : ∃ m, 2000 = m + r.length + 1 := ⟨2000 - r.length - 1, by omega⟩
  rw [hk, ← zd_rep]
  have h0 := implD_l0 a.length ha a b r gr hr r.length 0 k (bstart a.length) (bstart_inv _) (by omega) (by omega)
  rw [List.drop_zero] at h0
  refine Eq.trans h0 ?_
  exact implD_l1 a.length ha a b r rfl hb ga gb a.length 0 k (broots r (bstart a.length)) (broots_inv r _ gr (bstart_inv _)) (by omega) (by omega) (by omega)
theorem has_tells (a b c : List Int) (x : Int) (k : Nat) (hk : 60 ≤ k) : impl_has.f k a b c x = some (cellM a b c x) := by
  unfold impl_has.f cellM
  rw [implHV_tells a b c k hk]
  simp only [Option.bind_some]
  cases h : hv a b c with
  | false => rw [if_neg (by simp), Bool.false_and]
  | true =>
    rw [if_pos rfl, Bool.true_and]
    by_cases h1 : x ≥ 0
    · rw [if_pos h1]; congr 1; simp; omega
    · rw [if_neg h1, decide_eq_false (by omega)]
theorem implDO_tells (a b c : List Int) (x : Int) (k : Nat) (hk : 60 ≤ k) : impl_DistanceOf.f k a b c x = some (doM a b c x) := by
  unfold impl_DistanceOf.f doM
  rw [has_tells a b c x k (by omega)]
  simp only [Option.bind_some]
  by_cases h : cellM a b c x = true
  · have hh := cellM_iff.1 h
    have hl := hv_len hh.1
    have hdl := distM_len (by omega) (hv_a hh.1) (hv_b hh.1) (hv_c hh.1)
    have hv2 := distM_val (by omega) (hv_a hh.1) (hv_b hh.1) (hv_c hh.1) hh.2.1 hh.2.2
    rw [if_pos h, if_pos h, implD_tells a b _ (by omega) (by omega) (hv_a hh.1) (hv_b hh.1) (hv_c hh.1) (by omega)]
    simp only [Option.bind_some]
    rw [if_pos (by omega), if_pos (by rw [zd_len]; omega), zd_rd _ _ hh.2.1 (by omega)]
    by_cases h2 : rd (distM a b c) x < 0
    · rw [if_pos h2, if_pos h2]; rfl
    · rw [if_neg h2, if_neg h2, decide_eq_true (by omega)]
  · rw [if_neg h, if_neg h]
def nhM (c r : Int) : List Int × List Int × List Int × Bool := if 1 ≤ c ∧ c ≤ 8 ∧ 1 ≤ r ∧ r ≤ 3 then (List.replicate c.toNat (-1), List.replicate c.toNat (-1), List.replicate r.toNat (-1), true) else ([], [], [], false)
theorem many_l0 (n : Nat) (hn : n ≤ 1000) : ∀ (d i k : Nat), i ≤ n → n - i = d → d < k → spec_l1Many.l0 k (n : Int) (List.replicate i (-1)) (i : Int) = some (List.replicate n (-1)) := by
  intro d
  induction d with
  | zero =>
    intro i k hi hd hk
    obtain ⟨k, rfl⟩ : ∃ m, k = m + 1 := ⟨k - 1, by omega⟩
    obtain rfl : i = n := by omega
    rw [spec_l1Many.l0, if_neg (by omega)]
  | succ d ih =>
    intro i k hi hd hk
    obtain ⟨k, rfl⟩ : ∃ m, k = m + 1 := ⟨k - 1, by omega⟩
    rw [spec_l1Many.l0, if_pos (by omega), if_pos (by simp; omega), wrap_succ (m := n) (by omega) (by omega), ← List.replicate_succ']
    exact ih (i + 1) k (by omega) (by omega) (by omega)
theorem many_tells (n k : Nat) (hn : n ≤ 1000) (hk : n < k) : spec_l1Many.f k (n : Int) = some (List.replicate n (-1)) := by
  unfold spec_l1Many.f
  exact many_l0 n hn n 0 k (by omega) (by omega) hk
theorem specNH_tells (c r : Int) (k : Nat) (hk : 20 ≤ k) : spec_NewHeap.f k c r = some (nhM c r) := by
  unfold spec_NewHeap.f
  obtain ⟨k, rfl⟩ : ∃ m, k = m + 1 := ⟨k - 1, by omega⟩
  have hj : spec_NewHeap.j0 (k + 1) c r true = some ([], [], [], false) := by rw [spec_NewHeap.j0, if_pos rfl]
  have hf : ¬ (1 ≤ c ∧ c ≤ 8 ∧ 1 ≤ r ∧ r ≤ 3) → nhM c r = ([], [], [], false) := fun h => by unfold nhM; rw [if_neg h]
  by_cases h1 : c < 1
  · rw [if_pos h1, hj, hf (by omega)]
  rw [if_neg h1]
  by_cases h2 : c > 8
  · rw [if_pos h2, hj, hf (by omega)]
  rw [if_neg h2]
  by_cases h3 : r < 1
  · rw [if_pos h3, hj, hf (by omega)]
  rw [if_neg h3]
  by_cases h4 : r > 3
  · rw [decide_eq_true h4, hj, hf (by omega)]
  obtain ⟨c, rfl⟩ : ∃ n : Nat, c = (n : Int) := ⟨c.toNat, by omega⟩
  obtain ⟨r, rfl⟩ : ∃ n : Nat, r = (n : Int) := ⟨r.toNat, by omega⟩
  rw [decide_eq_false h4, spec_NewHeap.j0, if_neg (by simp), many_tells c k (by omega) (by omega), many_tells r k (by omega) (by omega)]
  unfold nhM
  rw [if_pos (by omega)]
  rfl
def bytesOk (b : List Int) : Prop := ∀ x ∈ b, 0 ≤ x ∧ x ≤ 255
theorem tmod_nat (a b : Nat) : Int.tmod (a : Int) (b : Int) = ((a % b : Nat) : Int) := rfl
theorem tdiv_nat (a b : Nat) : Int.tdiv (a : Int) (b : Int) = ((a / b : Nat) : Int) := rfl
theorem xor_nat (a b : Nat) (ha : a < 4611686018427387904) (hb : b < 4611686018427387904) : Go.bits .xor .i64 (a : Int) (b : Int) = ((a ^^^ b : Nat) : Int) := by
  have hx : a ^^^ b < 2 ^ 62 := Nat.xor_lt_two_pow (by omega) (by omega)
  have h1 : (BitVec.ofInt 64 (a : Int)).toNat = a := by
    rw [BitVec.ofInt_natCast, BitVec.toNat_ofNat]; exact Nat.mod_eq_of_lt (by omega)
  have h2 : (BitVec.ofInt 64 (b : Int)).toNat = b := by
    rw [BitVec.ofInt_natCast, BitVec.toNat_ofNat]; exact Nat.mod_eq_of_lt (by omega)
  show IntKind.i64.wrap ((BitVec.ofInt 64 (a : Int) ^^^ BitVec.ofInt 64 (b : Int)).toNat : Int) = _
  rw [BitVec.toNat_xor, h1, h2, IntKind.wrap_i64]
  omega
theorem wn (n : Nat) (h : n ≤ 9223372036854775807) : wrap64 (n : Int) = (n : Int) := wrap_id (by omega) (by omega)
theorem byte_at {b : List Int} (hb : bytesOk b) (i : Nat) (h : i < b.length) : ∃ A : Nat, A ≤ 255 ∧ rd b (i : Int) = (A : Int) := by
  have := hb _ (rd_mem b (i : Int) (by omega) (by omega))
  exact ⟨(rd b (i : Int)).toNat, by omega, by omega⟩
theorem pick_tells {b : List Int} (hb : bytesOk b) (hl : b.length ≤ 2000) (p n k : Nat) (hp : p ≤ 100000) (h1 : 1 ≤ n) (hk : 1 ≤ k) : ∃ v : Nat, v < n ∧ spec_l13Rd_pick.f k b (p : Int) (n : Int) = some ((v : Int), ((p + 1 : Nat) : Int)) := by
  obtain ⟨k, rfl⟩ : ∃ m, k = m + 1 := ⟨k - 1, by omega⟩
  have w1 : wrap64 ((p : Int) + 1) = ((p + 1 : Nat) : Int) := by unfold wrap64; omega
  have w2 : wrap64 (((p + 1 : Nat) : Int) - 1) = (p : Int) := by unfold wrap64; omega
  unfold spec_l13Rd_pick.f
  rw [if_neg (by omega), w1, spec_l13Rd_pick.j0, w2]
  by_cases e : b.length = 0
  · refine ⟨0, by omega, ?_⟩
    rw [if_pos (by simp [e])]; rfl
  · have e' : ((b.length : Int) == 0) = false := beq_eq_false_iff_ne.mpr (by omega)
    rw [e', if_neg Bool.false_ne_true]
    by_cases c : (p : Int) < (b.length : Int)
    · obtain ⟨A, hA, eA⟩ := byte_at hb p (by omega)
      refine ⟨A % n, Nat.mod_lt _ (by omega), ?_⟩
      rw [if_pos c, if_pos (by omega), if_neg (by omega), eA, wn A (by omega), tmod_nat]
    · have i1 : p % b.length < b.length := Nat.mod_lt _ (by omega)
      have i2 : (p * 7 + 3) % b.length < b.length := Nat.mod_lt _ (by omega)
      obtain ⟨A, hA, eA⟩ := byte_at hb _ i1
      obtain ⟨B, hB, eB⟩ := byte_at hb _ i2
      have w3a : wrap64 ((p : Int) * 7) = ((p * 7 : Nat) : Int) := by rw [wrap_id (by omega) (by omega)]; omega
      have w3 : wrap64 (((p * 7 : Nat) : Int) + 3) = ((p * 7 + 3 : Nat) : Int) := by rw [wrap_id (by omega) (by omega)]; omega
      have q : p / b.length ≤ 100000 := Nat.le_trans (Nat.div_le_self _ _) hp
      obtain ⟨Q, hQ⟩ : ∃ Q, Q = p / b.length := ⟨_, rfl⟩
      rw [← hQ] at q
      have x1 : wrap64 ((A : Int) * 131) = ((A * 131 : Nat) : Int) := by rw [wrap_id (by omega) (by omega)]; omega
      have x2 : wrap64 ((B : Int) * 1117) = ((B * 1117 : Nat) : Int) := by rw [wrap_id (by omega) (by omega)]; omega
      have x3 : wrap64 ((p : Int) * 29) = ((p * 29 : Nat) : Int) := by rw [wrap_id (by omega) (by omega)]; omega
      have x4 : wrap64 ((Q : Int) * 53) = ((Q * 53 : Nat) : Int) := by rw [wrap_id (by omega) (by omega)]; omega
      have w4 : wrap64 (((A * 131 : Nat) : Int) + ((B * 1117 : Nat) : Int)) = ((A * 131 + B * 1117 : Nat) : Int) := by rw [wrap_id (by omega) (by omega)]; omega
      have w5 : wrap64 (((A * 131 + B * 1117 : Nat) : Int) + ((p * 29 : Nat) : Int)) = ((A * 131 + B * 1117 + p * 29 : Nat) : Int) := by rw [wrap_id (by omega) (by omega)]; omega
      have w6 : wrap64 (((A * 131 + B * 1117 + p * 29 : Nat) : Int) + ((Q * 53 : Nat) : Int)) = ((A * 131 + B * 1117 + p * 29 + Q * 53 : Nat) : Int) := by rw [wrap_id (by omega) (by omega)]; omega
      rw [if_neg c, if_neg (by omega), tmod_nat p b.length, w3a, w3, tmod_nat (p * 7 + 3) b.length, if_pos (by omega), if_pos (by omega), if_pos (by omega), if_pos (by omega), if_neg (by omega), eA, eB, tdiv_nat p b.length, ← hQ, wn A (by omega), wn B (by omega), wn Q (by omega), x1, x2, w4, x3, w5, x4, w6]
      have hX : A * 131 + B * 1117 + p * 29 + Q * 53 < 4611686018427387904 := by omega
      generalize A * 131 + B * 1117 + p * 29 + Q * 53 = X at hX
      have e64 : Int.tdiv (X : Int) 64 = ((X / 64 : Nat) : Int) := rfl
      rw [e64, wn (X / 64) (by omega), xor_nat X (X / 64) hX (by omega), tmod_nat]
      exact ⟨_, Nat.mod_lt _ (by omega), rfl⟩
theorem num_tells {b : List Int} (hb : bytesOk b) (hl : b.length ≤ 2000) (p k : Nat) (l : List Int) (hp : p ≤ 100000) (h1 : 1 ≤ l.length) (hk : 1 ≤ k) : ∃ v, v ∈ l ∧ spec_l13Rd_num.f k b (p : Int) l = some (v, ((p + 1 : Nat) : Int)) := by
  obtain ⟨v, hv, e⟩ := pick_tells hb hl p l.length k hp h1 hk
  refine ⟨rd l (v : Int), rd_mem l _ (by omega) (by omega), ?_⟩
  unfold spec_l13Rd_num.f
  rw [e]
  simp only [Option.bind_some]
  rw [if_pos (by omega), if_pos (by omega)]
theorem open_tells (b : List Int) : ∃ c, c.length ≤ 2000 ∧ (bytesOk b → bytesOk c) ∧ spec_l13Open.f b = some (c, ((0 : Nat) : Int)) := by
  unfold spec_l13Open.f
  by_cases h : (b.length : Int) > 2000
  · refine ⟨b.take 2000, by simp; omega, fun hb x hx => hb x (List.mem_of_mem_take hx), ?_⟩
    rw [if_pos h, if_pos (by omega)]; rfl
  · refine ⟨b, by omega, fun hb => hb, ?_⟩
    rw [if_neg h]; rfl
def okl (n : Nat) (l : List Int) : Prop := ∀ x ∈ l, -1 ≤ x ∧ x < (n : Int)
theorem okl_set {n : Nat} {l : List Int} (h : okl n l) (i : Nat) {v : Int} (hv : -1 ≤ v ∧ v < (n : Int)) : okl n (l.set i v) := by
  intro x hx
  rcases List.mem_or_eq_of_mem_set hx with hx | rfl
  · exact h x hx
  · exact hv
theorem wrap_p1 (n : Nat) (h : n ≤ 1000) : wrap64 ((n : Int) + 1) = ((n + 1 : Nat) : Int) := wrap_id (by omega) (by omega)
theorem wrap_p2 (n : Nat) (h : n ≤ 1000) : wrap64 ((n : Int) + 2) = ((n + 2 : Nat) : Int) := wrap_id (by omega) (by omega)
theorem wrap_m1 (n : Nat) (h : n ≤ 1000) : wrap64 ((n : Int) - 1) = (n : Int) - 1 := wrap_id (by omega) (by omega)
theorem wrap_m2 (n : Nat) (h : n ≤ 1000) : wrap64 ((n : Int) - 2) = (n : Int) - 2 := wrap_id (by omega) (by omega)
theorem drawl1_tells {b : List Int} (hb : bytesOk b) (hl : b.length ≤ 2000) (n : Nat) (h1 : 1 ≤ n) (hn : n ≤ 8) (x y : List Int) : ∀ (d i k p : Nat) (z : List Int), z.length ≤ 100 → i ≤ z.length → z.length - i = d → d + 2 ≤ k → p + d ≤ 90000 → okl n z →
    ∃ z' p', spec_l1Draw.l1 k (n : Int) (i : Int) b (p : Int) x y z = some (x, y, z', ((p' : Nat) : Int)) ∧ z'.length = z.length ∧ okl n z' ∧ p' ≤ p + d := by
  intro d
  induction d with
  | zero =>
    intro i k p z hz3 hi hd hk hp hz
    obtain ⟨k, rfl⟩ : ∃ m, k = m + 1 := ⟨k - 1, by omega⟩
    exact ⟨z, p, by rw [spec_l1Draw.l1, if_neg (by omega)], rfl, hz, by omega⟩
  | succ d ih =>
    intro i k p z hz3 hi hd hk hp hz
    obtain ⟨k, rfl⟩ : ∃ m, k = m + 1 := ⟨k - 1, by omega⟩
    obtain ⟨v, hv, e⟩ := pick_tells hb hl p (n + 1) k (by omega) (by omega) (by omega)
    obtain ⟨z', p', e2, l2, o2, q2⟩ := ih (i + 1) k (p + 1) (z.set i ((v : Int) - 1)) (by simp; omega) (by simp; omega) (by simp; omega) (by omega) (by omega) (okl_set hz i (by omega))
    refine ⟨z', p', ?_, by rw [l2]; simp, o2, by omega⟩
    rw [spec_l1Draw.l1, if_pos (by omega), wrap_p1 n (by omega), e]
    simp only [Option.bind_some]
    rw [if_pos (by omega), wrap_m1 v (by omega), wrap_succ (m := z.length) (by omega) (by omega), Int.toNat_natCast]
    exact e2
theorem drawl0_tells {b : List Int} (hb : bytesOk b) (hl : b.length ≤ 2000) (n : Nat) (h1 : 1 ≤ n) (hn : n ≤ 8) (z : List Int) (hzl : z.length ≤ 3) (hz : okl n z) : ∀ (d i k p : Nat) (x y : List Int), i ≤ n → n - i = d → d + 10 ≤ k → p + 2 * d ≤ 80000 → okl n x → okl n y → x.length = n → y.length = n →
    ∃ x' y' z' p', spec_l1Draw.l0 k (n : Int) (i : Int) b (p : Int) x y z = some (x', y', z', ((p' : Nat) : Int)) ∧ (x'.length = n ∧ y'.length = n ∧ z'.length = z.length) ∧ (okl n x' ∧ okl n y' ∧ okl n z') ∧ p' ≤ p + 2 * d + 3 := by
  intro d
  induction d with
  | zero =>
    intro i k p x y hi hd hk hp hx hy lx ly
    obtain ⟨k, rfl⟩ : ∃ m, k = m + 1 := ⟨k - 1, by omega⟩
    obtain ⟨z', p', e2, l2, o2, q2⟩ := drawl1_tells hb hl n h1 hn x y z.length 0 k p z (by omega) (by omega) (by omega) (by omega) (by omega) hz
    exact ⟨x, y, z', p', by rw [spec_l1Draw.l0, if_neg (by omega)]; exact e2, ⟨lx, ly, l2⟩, ⟨hx, hy, o2⟩, by omega⟩
  | succ d ih =>
    intro i k p x y hi hd hk hp hx hy lx ly
    obtain ⟨k, rfl⟩ : ∃ m, k = m + 1 := ⟨k - 1, by omega⟩
    obtain ⟨v, hv, e⟩ := pick_tells hb hl p (n + 2) k (by omega) (by omega) (by omega)
    obtain ⟨u, hu, f⟩ := pick_tells hb hl (p + 1) (n + 2) k (by omega) (by omega) (by omega)
    have r1 : rd (x.set i ((v : Int) - 1)) (i : Int) = (v : Int) - 1 := by
      have := rd_set_eq x (i : Int) ((v : Int) - 1) (by omega) (by omega)
      rwa [Int.toNat_natCast] at this
    have r2 : rd (y.set i ((u : Int) - 2)) (i : Int) = (u : Int) - 2 := by
      have := rd_set_eq y (i : Int) ((u : Int) - 2) (by omega) (by omega)
      rwa [Int.toNat_natCast] at this
    rw [spec_l1Draw.l0, if_pos (by omega), wrap_p2 n (by omega), e]
    simp only [Option.bind_some]
    rw [if_pos (by omega), if_pos (by omega), f]
    simp only [Option.bind_some]
    rw [if_pos (by omega), wrap_m1 v (by omega), wrap_m2 u (by omega), wrap_succ (m := n) (by omega) (by omega), Int.toNat_natCast]
    simp only [r1, r2]
    have go : ∀ (x2 y2 : List Int), okl n x2 → okl n y2 → x2.length = n → y2.length = n → ∃ x' y' z' p', spec_l1Draw.l0 k (n : Int) ((i + 1 : Nat) : Int) b ((p + 1 + 1 : Nat) : Int) x2 y2 z = some (x', y', z', ((p' : Nat) : Int)) ∧ (x'.length = n ∧ y'.length = n ∧ z'.length = z.length) ∧ (okl n x' ∧ okl n y' ∧ okl n z') ∧ p' ≤ p + 2 * (d + 1) + 3 := by
      intro x2 y2 a1 a2 a3 a4
      obtain ⟨x', y', z', p', g1, g2, g3, g4⟩ := ih (i + 1) k (p + 1 + 1) x2 y2 (by omega) (by omega) (by omega) (by omega) a1 a2 a3 a4
      exact ⟨x', y', z', p', g1, g2, g3, by omega⟩
    by_cases c1 : (v : Int) - 1 ≥ (n : Int)
    · have ox : okl n ((x.set i ((v : Int) - 1)).set i (-1)) := by rw [List.set_set]; exact okl_set hx i (by omega)
      rw [if_pos c1]
      by_cases c2 : (u : Int) - 2 < -1
      · have oy : okl n ((y.set i ((u : Int) - 2)).set i (-1)) := by rw [List.set_set]; exact okl_set hy i (by omega)
        rw [if_pos c2]
        exact go _ _ ox oy (by simp [lx]) (by simp [ly])
      · rw [if_neg c2]
        exact go _ _ ox (okl_set hy i (by omega)) (by simp [lx]) (by simp [ly])
    · rw [if_neg c1]
      by_cases c2 : (u : Int) - 2 < -1
      · have oy : okl n ((y.set i ((u : Int) - 2)).set i (-1)) := by rw [List.set_set]; exact okl_set hy i (by omega)
        rw [if_pos c2]
        exact go _ _ (okl_set hx i (by omega)) oy (by simp [lx]) (by simp [ly])
      · rw [if_neg c2]
        exact go _ _ (okl_set hx i (by omega)) (okl_set hy i (by omega)) (by simp [lx]) (by simp [ly])
theorem draw_tells {b : List Int} (hb : bytesOk b) (hl : b.length ≤ 2000) (p k : Nat) (hp : p ≤ 70000) (hk : 100 ≤ k) : ∃ x y z p', spec_l1Draw.f k b (p : Int) = some (x, y, z, ((p' : Nat) : Int)) ∧ hv x y z = true ∧ p' ≤ p + 30 := by
  obtain ⟨v, hv1, e1⟩ := num_tells hb hl p k [4, 3, 5, 6, 2, 8, 1] (by omega) (by simp) (by omega)
  obtain ⟨u, hu1, e2⟩ := num_tells hb hl (p + 1) k [2, 1, 3] (by omega) (by simp) (by omega)
  have bv : 1 ≤ v ∧ v ≤ 8 := by simp at hv1; omega
  have bu : 1 ≤ u ∧ u ≤ 3 := by simp at hu1; omega
  obtain ⟨n, rfl⟩ : ∃ n : Nat, v = (n : Int) := ⟨v.toNat, by omega⟩
  obtain ⟨m, rfl⟩ : ∃ n : Nat, u = (n : Int) := ⟨u.toNat, by omega⟩
  have hr : ∀ q : Nat, okl n (List.replicate q (-1)) := by
    intro q x hx
    rw [(List.mem_replicate.1 hx).2]; omega
  obtain ⟨x, y, z, p', f1, f2, f3, f4⟩ := drawl0_tells hb hl n (by omega) (by omega) (List.replicate m (-1)) (by simp; omega) (hr m) n 0 k (p + 1 + 1) (List.replicate n (-1)) (List.replicate n (-1)) (by omega) (by omega) (by omega) (by omega) (hr n) (hr n) (by simp) (by simp)
  refine ⟨x, y, z, p', ?_, ?_, by omega⟩
  · unfold spec_l1Draw.f
    rw [e1]
    simp only [Option.bind_some]
    rw [e2]
    simp only [Option.bind_some]
    rw [specNH_tells _ _ k (by omega)]
    simp only [Option.bind_some]
    unfold nhM
    rw [if_pos (by omega), Int.toNat_natCast, Int.toNat_natCast]
    exact f1
  · rw [List.length_replicate] at f2
    refine hv_iff.2 ⟨by omega, ?_, ?_, ?_⟩
    · intro w hw; have := f3.1 w hw; omega
    · intro w hw; have := f3.2.1 w hw; omega
    · intro w hw; have := f3.2.2 w hw; omega
theorem l1Copy_tells (a b c : List Int) (ha : a.length ≤ 1048576) (hb : b.length ≤ 1048576) (hc : c.length ≤ 1048576) : spec_l1Copy.f a b c = some (a, b, c) := by
  unfold spec_l1Copy.f
  simp only [Option.bind_some, List.length_nil, List.nil_append]
  rw [if_pos (by omega), if_pos (by omega), if_pos (by omega)]
def small3 (x y z : List Int) : Prop := x.length ≤ 20 ∧ y.length ≤ 20 ∧ z.length ≤ 20
theorem wrong_tells {b : List Int} (hb : bytesOk b) (hl : b.length ≤ 2000) (p k : Nat) (hp : p ≤ 70000) (hk : 100 ≤ k) (x y z : List Int) (h1 : 1 ≤ x.length) (hx : x.length ≤ 18) (hy : y.length ≤ 18) (hz : z.length ≤ 18) : ∃ x' y' z' p', spec_l1Wrong.f k b (p : Int) x y z = some (x', y', z', ((p' : Nat) : Int)) ∧ (x'.length = x.length ∧ y'.length ≤ y.length + 1 ∧ z'.length ≤ z.length + 1) ∧ p' ≤ p + 3 := by
  obtain ⟨v, hv, e⟩ := pick_tells hb hl p 20 k (by omega) (by omega) (by omega)
  obtain ⟨q, hq⟩ : ∃ q, k = q + 1 := ⟨k - 1, by omega⟩
  have hj : ∀ s0 s1 a b c, spec_l1Wrong.j0 k s0 s1 a b c = some (a, b, c, s1) := fun s0 s1 a b c => by rw [hq]; rfl
  have e' : spec_l13Rd_pick.f k b (p : Int) 20 = some ((v : Int), ((p + 1 : Nat) : Int)) := e
  unfold spec_l1Wrong.f
  rw [l1Copy_tells x y z (by omega) (by omega) (by omega)]
  simp only [Option.bind_some]
  rw [e']
  simp only [Option.bind_some]
  by_cases c0 : (v : Int) = 0
  · obtain ⟨u, hu, f⟩ := pick_tells hb hl (p + 1) x.length k (by omega) h1 (by omega)
    obtain ⟨t, ht, g⟩ := num_tells hb hl (p + 1 + 1) k [-2, 8, 0] (by omega) (by simp) (by omega)
    refine ⟨x.set u t, y, z, p + 1 + 1 + 1, ?_, ⟨?_, ?_, ?_⟩, by omega⟩
    · rw [if_pos c0, f]
      simp only [Option.bind_some]
      rw [g]
      simp only [Option.bind_some]
      rw [if_pos (by omega), if_pos (by omega), Int.toNat_natCast, hj]
    · simp
    · omega
    · omega
  · rw [if_neg c0]
    by_cases c1 : (v : Int) = 1
    · rw [if_pos c1, if_pos (by omega), hj]
      exact ⟨_, _, _, p + 1, rfl, ⟨rfl, by simp, by omega⟩, by omega⟩
    · rw [if_neg c1]
      by_cases c2 : (v : Int) = 2
      · obtain ⟨t, ht, g⟩ := num_tells hb hl (p + 1) k [0, -1, 9] (by omega) (by simp) (by omega)
        rw [if_pos c2, g]
        simp only [Option.bind_some]
        rw [if_pos (by omega), hj]
        exact ⟨_, _, _, p + 1 + 1, rfl, ⟨rfl, by omega, by simp⟩, by omega⟩
      · rw [if_neg c2]
        by_cases c3 : (v : Int) = 3
        · rw [if_pos c3, hj]
          exact ⟨_, _, _, p + 1, rfl, ⟨rfl, by omega, by simp⟩, by omega⟩
        · rw [if_neg c3, hj]
          exact ⟨_, _, _, p + 1, rfl, ⟨rfl, by omega, by omega⟩, by omega⟩
theorem drawHeapValid_tells {code : List Int} (hb0 : bytesOk code) (k : Nat) (hk : 100 ≤ k) : ∃ x y z, spec_DrawHeapValid.f k code = some (x, y, z) ∧ small3 x y z := by
  obtain ⟨b, hl, hb1, e0⟩ := open_tells code
  have hb := hb1 hb0
  obtain ⟨x, y, z, p, e1, h1, q1⟩ := draw_tells hb hl 0 k (by omega) hk
  have hv1 := hv_len h1
  obtain ⟨x', y', z', p', e2, l2, q2⟩ := wrong_tells hb hl p k (by omega) hk x y z (by omega) (by omega) (by omega) (by omega)
  refine ⟨x', y', z', ?_, by unfold small3; omega⟩
  unfold spec_DrawHeapValid.f
  rw [e0]
  simp only [Option.bind_some]
  rw [e1]
  simp only [Option.bind_some]
  rw [e2]
  rfl
theorem drawNewColored_tells {code : List Int} (hb0 : bytesOk code) (k : Nat) (hk : 100 ≤ k) : ∃ x y z, spec_DrawNewColored.f k code = some (x, y, z) ∧ small3 x y z := by
  obtain ⟨x, y, z, e1, s1⟩ := drawHeapValid_tells hb0 k hk
  refine ⟨x, y, z, ?_, s1⟩
  unfold spec_DrawNewColored.f
  rw [e1]
  rfl
def ncM (a b c : List Int) : List Int × List Int × List Int × List Int × Bool := if hv a b c = true then (a, b, c, List.replicate a.length 0, true) else ([], [], [], [], false)
theorem ncM_lens (a b c : List Int) : (ncM a b c).1.length ≤ 8 ∧ (ncM a b c).2.1.length ≤ 8 ∧ (ncM a b c).2.2.1.length ≤ 3 ∧ (ncM a b c).2.2.2.1.length ≤ 8 := by
  unfold ncM
  by_cases h : hv a b c = true
  · have := hv_len h
    rw [if_pos h]; simp; omega
  · rw [if_neg h]; simp
theorem copied_tells (a b c : List Int) (ha : a.length ≤ 1048576) (hb : b.length ≤ 1048576) (hc : c.length ≤ 1048576) : impl_copied.f a b c = some (a, b, c) := by
  unfold impl_copied.f slices_Clone_int_int.f
  rw [if_pos (by omega), if_pos (by omega), if_pos (by omega)]
  rfl
theorem implNC_tells (a b c : List Int) (k : Nat) (hk : 60 ≤ k) : impl_NewColored.f k a b c = some (ncM a b c) := by
  unfold impl_NewColored.f ncM
  rw [implHV_tells a b c k (by omega)]
  simp only [Option.bind_some]
  by_cases h : hv a b c = true
  · have hl := hv_len h
    rw [if_pos h, if_pos h, copied_tells a b c (by omega) (by omega) (by omega)]
    simp only [Option.bind_some]
    rw [if_pos (by omega), Int.toNat_natCast, if_pos (by omega)]
  · rw [if_neg h, if_neg h]
theorem ncM_pos {a b c : List Int} (h : hv a b c = true) : ncM a b c = (a, b, c, List.replicate a.length 0, true) := by unfold ncM; rw [if_pos h]
theorem ncM_neg {a b c : List Int} (h : ¬ hv a b c = true) : ncM a b c = ([], [], [], [], false) := by unfold ncM; rw [if_neg h]
theorem cv_zeros {a b c : List Int} (h : hv a b c = true) : cv a b c (List.replicate a.length 0) = true :=
  cv_iff.2 ⟨h, fun w hw => by rw [(List.mem_replicate.1 hw).2]; omega, by simp⟩
theorem specNC_tells (a b c : List Int) (k : Nat) (hk : 60 ≤ k) : spec_NewColored.f k a b c = some (ncM a b c) := by
  unfold spec_NewColored.f ncM
  rw [specHV_tells a b c k (by omega)]
  simp only [Option.bind_some]
  by_cases h : hv a b c = true
  · have hl := hv_len h
    rw [if_pos h, if_pos h, l1Copy_tells a b c (by omega) (by omega) (by omega)]
    simp only [Option.bind_some]
    rw [if_pos (by omega), Int.toNat_natCast, if_pos (by omega)]
  · rw [if_neg h, if_neg h]
/-- Colors behind the shading of a cell (or of none). -/
def sh (e : List Int) (p : Int) : List Int := if p ≠ -1 ∧ rd e p = 0 then e.set p.toNat 1 else e
theorem sh_len (e : List Int) (p : Int) : (sh e p).length = e.length := by unfold sh; split <;> simp
theorem sh_rd {e : List Int} {p q : Int} (hp : p = -1 ∨ (0 ≤ p ∧ p < (e.length : Int))) (hq : 0 ≤ q) : rd (sh e p) q = if q = p ∧ rd e p = 0 then 1 else rd e q := by
  unfold sh
  by_cases h : p ≠ -1 ∧ rd e p = 0
  · obtain ⟨h0, h1⟩ := hp.resolve_left h.1
    rw [if_pos h]
    by_cases g : q = p
    · subst g; rw [rd_set_eq _ _ _ h0 h1, if_pos ⟨rfl, h.2⟩]
    · rw [rd_set_ne _ _ _ _ h0 hq (fun k => g k.symm), if_neg (fun k => g k.1)]
  · rw [if_neg h, if_neg (fun k => h ⟨by omega, k.2⟩)]
theorem sh_col {e : List Int} (h : ∀ x ∈ e, 0 ≤ x ∧ x ≤ 2) (p : Int) : ∀ x ∈ sh e p, 0 ≤ x ∧ x ≤ 2 := by
  unfold sh
  split
  · intro x hx
    rcases List.mem_or_eq_of_mem_set hx with g | rfl
    · exact h x g
    · omega
  · exact h
def shAll (c e : List Int) : List Int := c.foldl sh e
theorem shAll_len : ∀ (c e : List Int), (shAll c e).length = e.length
  | [], _ => rfl
  | p :: c, e => (shAll_len c (sh e p)).trans (sh_len e p)
theorem shAll_col : ∀ (c e : List Int), (∀ x ∈ e, 0 ≤ x ∧ x ≤ 2) → ∀ x ∈ shAll c e, 0 ≤ x ∧ x ≤ 2
  | [], _, h => h
  | p :: c, e, h => shAll_col c (sh e p) (sh_col h p)
/-- A cell behind the shading of many: gray if it was white and is one of them. -/
theorem shAll_rd {n : Nat} : ∀ (c e : List Int), e.length = n → (∀ x ∈ c, -1 ≤ x ∧ x < (n : Int)) → ∀ {q : Int}, 0 ≤ q → rd (shAll c e) q = if q ∈ c ∧ rd e q = 0 then 1 else rd e q
  | [], e, _, _, q, _ => by rw [if_neg (fun k => absurd k.1 (by simp))]; rfl
  | p :: c, e, hn, hc, q, hq => by
    have hp : p = -1 ∨ (0 ≤ p ∧ p < (e.length : Int)) := by have := hc p (by simp); omega
    have ih := shAll_rd c (sh e p) ((sh_len e p).trans hn) (fun x hx => hc x (by simp [hx])) hq
    have r := sh_rd hp hq
    show rd (shAll c (sh e p)) q = _
    rw [ih]
    by_cases g : q = p
    · by_cases z : rd e q = 0
      · have r1 : rd (sh e p) q = 1 := by rw [r, if_pos ⟨g, by rw [← g]; exact z⟩]
        rw [r1, if_neg (fun k => absurd k.2 (by omega)), if_pos ⟨by simp [g], z⟩]
      · have r1 : rd (sh e p) q = rd e q := by rw [r, if_neg (fun k => z (by rw [g]; exact k.2))]
        rw [r1, if_neg (fun k => z k.2), if_neg (fun k => z k.2)]
    · have r1 : rd (sh e p) q = rd e q := by rw [r, if_neg (fun k => g k.1)]
      rw [r1]
      by_cases z : q ∈ c ∧ rd e q = 0
      · rw [if_pos z, if_pos ⟨by simp [z.1], z.2⟩]
      · rw [if_neg z, if_neg (fun k => z ⟨(List.mem_cons.1 k.1).resolve_left g, k.2⟩)]
def srM (a b c e : List Int) : List Int × List Int × List Int × List Int × Bool := if cv a b c e = true then (a, b, c, shAll c e, true) else ([], [], [], [], false)
theorem cv_lens {a b c e : List Int} (h : cv a b c e = true) : a.length = b.length ∧ 1 ≤ a.length ∧ a.length ≤ 8 ∧ 1 ≤ c.length ∧ c.length ≤ 3 ∧ e.length = a.length := by
  obtain ⟨h1, _, h3⟩ := cv_iff.1 h
  have := hv_len h1
  omega
theorem cv_shAll {a b c e : List Int} (h : cv a b c e = true) (l : List Int) : cv a b c (shAll l e) = true := by
  obtain ⟨h1, h2, h3⟩ := cv_iff.1 h
  exact cv_iff.2 ⟨h1, shAll_col l e h2, (shAll_len l e).trans h3⟩
theorem bm_met {n : Nat} {s : List Int × List Int} (h : Binv n s) {p far : Int} (hp : p = -1 ∨ (0 ≤ p ∧ p < (n : Int))) (h1 : 1 ≤ far) : p = -1 ∨ 1 ≤ rd (bm s p far).1 p := by
  by_cases c1 : p = -1
  · exact Or.inl c1
  · obtain ⟨p0, p1⟩ := hp.resolve_left c1
    have hl := h.len
    refine Or.inr ?_
    unfold bm
    by_cases c2 : rd s.1 p < 0
    · rw [if_pos ⟨c1, c2⟩]
      show 1 ≤ rd (s.1.set p.toNat far) p
      rw [rd_set_eq _ _ _ p0 (by omega)]; exact h1
    · rw [if_neg (fun hh => c2 hh.2)]
      rcases h.val p p0 p1 with v | v
      · omega
      · exact v.1
theorem ptr_ok {n : Nat} {l : List Int} (hl : l.length = n) (g : ∀ x ∈ l, -1 ≤ x ∧ x < (n : Int)) {s : List Int × List Int} (h : Binv n s) {j : Nat} (hj : j < s.2.length) : rd l (rd s.2 (j : Int)) = -1 ∨ (0 ≤ rd l (rd s.2 (j : Int)) ∧ rd l (rd s.2 (j : Int)) < (n : Int)) := by
  have hc := h.op _ (rd_mem s.2 (j : Int) (by omega) (by omega))
  exact okp_ptr g hc.1 (by omega)
theorem broots_keep {n : Nat} : ∀ (c : List Int) (s : List Int × List Int), (∀ x ∈ c, -1 ≤ x ∧ x < (n : Int)) → Binv n s → ∀ {x : Int}, 0 ≤ x → 1 ≤ rd s.1 x → rd (broots c s).1 x = rd s.1 x
  | [], s, _, _, x, _, _ => rfl
  | p :: c, s, hc, h, x, h0, h1 => by
    have pp : p = -1 ∨ (0 ≤ p ∧ p < (n : Int)) := by have := hc p (by simp); omega
    have k1 := bm_keep h pp (far := 1) h0 h1
    have := broots_keep c (bm s p 1) (fun x hx => hc x (by simp [hx])) (bm_inv h pp (by omega) (by omega)) h0 (by omega)
    exact this.trans k1
theorem bloop_keep {n : Nat} {a b : List Int} (ha : a.length = n) (hb : b.length = n) (ga : ∀ x ∈ a, -1 ≤ x ∧ x < (n : Int)) (gb : ∀ x ∈ b, -1 ≤ x ∧ x < (n : Int)) : ∀ (m i : Nat) (s : List Int × List Int), Binv n s → ∀ {x : Int}, 0 ≤ x → 1 ≤ rd s.1 x → rd (bloop a b m i s).1 x = rd s.1 x
  | 0, _, _, _, _, _, _ => rfl
  | m + 1, i, s, h, x, h0, h1 => by
    rw [bloop]
    by_cases c : i < s.2.length
    · rw [if_pos c]
      have pa := ptr_ok ha ga h c
      have pb := ptr_ok hb gb h c
      have hc := h.op _ (rd_mem s.2 (i : Int) (by omega) (by omega))
      have hv : 1 ≤ rd s.1 (rd s.2 (i : Int)) ∧ rd s.1 (rd s.2 (i : Int)) ≤ (s.2.length : Int) := by
        rcases h.val _ hc.1 hc.2.1 with v | v
        · omega
        · exact v
      have i1 := bm_inv h (p := rd a (rd s.2 (i : Int))) (far := rd s.1 (rd s.2 (i : Int)) + 1) pa (by omega) (by omega)
      have k1 := bm_keep h pa (far := rd s.1 (rd s.2 (i : Int)) + 1) h0 h1
      have k2 := bm_keep i1 pb (far := rd s.1 (rd s.2 (i : Int)) + 1) h0 (by omega)
      have k3 : rd (bstep a b s (i : Int)).1 x = rd s.1 x := k2.trans k1
      exact (bloop_keep ha hb ga gb m (i + 1) _ (bstep_inv ha hb ga gb h (by omega) (by omega)) h0 (by omega)).trans k3
    · rw [if_neg c]
theorem broots_one {n : Nat} : ∀ (c : List Int) (s : List Int × List Int), (∀ x ∈ c, -1 ≤ x ∧ x < (n : Int)) → Binv n s → ∀ p ∈ c, p = -1 ∨ 1 ≤ rd (broots c s).1 p
  | [], _, _, _, p, hp => absurd hp (by simp)
  | q :: c, s, hc, h, p, hp => by
    have pq : q = -1 ∨ (0 ≤ q ∧ q < (n : Int)) := by have := hc q (by simp); omega
    have i1 := bm_inv h pq (far := 1) (by omega) (by omega)
    rcases List.mem_cons.1 hp with e | hp
    · subst e
      rcases bm_met h pq (far := 1) (by omega) with r | r
      · exact Or.inl r
      · by_cases c1 : p = -1
        · exact Or.inl c1
        · have := broots_keep c (bm s p 1) (fun x hx => hc x (by simp [hx])) i1 (x := p) (by omega) r
          refine Or.inr ?_
          show 1 ≤ rd (broots c (bm s p 1)).1 p
          rw [this]; exact r
    · exact broots_one c (bm s q 1) (fun x hx => hc x (by simp [hx])) i1 p hp
/-- x is reached from the starts c by a way of d cells. -/
def way (a b c : List Int) : Nat → Int → Prop
  | 0, _ => False
  | d + 1, y => 0 ≤ y ∧ ((d = 0 ∧ y ∈ c) ∨ ∃ x : Int, way a b c d x ∧ (rd a x = y ∨ rd b x = y))
theorem way_start {a b c : List Int} {y : Int} (h0 : 0 ≤ y) (h : y ∈ c) : way a b c 1 y := ⟨h0, Or.inl ⟨rfl, h⟩⟩
theorem way_next {a b c : List Int} {d : Nat} {x y : Int} (h : way a b c d x) (h0 : 0 ≤ y) (e : rd a x = y ∨ rd b x = y) : way a b c (d + 1) y := ⟨h0, Or.inr ⟨x, h, e⟩⟩
/-- What holds of a met cell and its distance when it is met. -/
def Ball (n : Nat) (P : Int → Int → Prop) (s : List Int × List Int) : Prop := ∀ x : Int, 0 ≤ x → x < (n : Int) → 1 ≤ rd s.1 x → P (rd s.1 x) x
theorem bm_ball {n : Nat} {P : Int → Int → Prop} {s : List Int × List Int} (h : Binv n s) (g : Ball n P s) {p far : Int} (hp : p = -1 ∨ (0 ≤ p ∧ p < (n : Int))) (hP : p ≠ -1 → P far p) : Ball n P (bm s p far) := by
  intro x h0 h1 h2
  unfold bm at h2 ⊢
  by_cases c : p ≠ -1 ∧ rd s.1 p < 0
  · rw [if_pos c] at h2 ⊢
    have hl := h.len
    obtain ⟨p0, p1⟩ := hp.resolve_left c.1
    have h2' : 1 ≤ rd (s.1.set p.toNat far) x := h2
    show P (rd (s.1.set p.toNat far) x) x
    by_cases e : p = x
    · subst e; rw [rd_set_eq _ _ _ h0 (by omega)]; exact hP c.1
    · rw [rd_set_ne _ _ _ _ p0 h0 e] at h2' ⊢; exact g x h0 h1 h2'
  · rw [if_neg c] at h2 ⊢; exact g x h0 h1 h2
theorem bstart_ball (n : Nat) (P : Int → Int → Prop) : Ball n P (bstart n) := by
  intro x h0 h1 h2
  have : rd (bstart n).1 x = -1 := rd_rep n (-1) x h0 h1
  omega
theorem broots_ball {n : Nat} {P : Int → Int → Prop} : ∀ (c : List Int) (s : List Int × List Int), (∀ x ∈ c, -1 ≤ x ∧ x < (n : Int)) → (∀ x ∈ c, x ≠ -1 → P 1 x) → Binv n s → Ball n P s → Ball n P (broots c s)
  | [], s, _, _, _, g => g
  | p :: c, s, hc, hP, h, g => by
    have pp : p = -1 ∨ (0 ≤ p ∧ p < (n : Int)) := by have := hc p (by simp); omega
    exact broots_ball c (bm s p 1) (fun x hx => hc x (by simp [hx])) (fun x hx => hP x (by simp [hx])) (bm_inv h pp (by omega) (by omega)) (bm_ball h g pp (hP p (by simp)))
theorem bstep_ball {n : Nat} {P : Int → Int → Prop} {a b : List Int} (ha : a.length = n) (hb : b.length = n) (ga : ∀ x ∈ a, -1 ≤ x ∧ x < (n : Int)) (gb : ∀ x ∈ b, -1 ≤ x ∧ x < (n : Int)) (hP : ∀ (d x y : Int), 1 ≤ d → 0 ≤ x → x < (n : Int) → P d x → (rd a x = y ∨ rd b x = y) → y ≠ -1 → P (d + 1) y) {s : List Int × List Int} (h : Binv n s) (g : Ball n P s) {i : Nat} (h1 : i < s.2.length) : Ball n P (bstep a b s (i : Int)) := by
  have hc := h.op _ (rd_mem s.2 (i : Int) (by omega) (by omega))
  have hv : 1 ≤ rd s.1 (rd s.2 (i : Int)) ∧ rd s.1 (rd s.2 (i : Int)) ≤ (s.2.length : Int) := by
    rcases h.val _ hc.1 hc.2.1 with v | v
    · omega
    · exact v
  have pa := ptr_ok ha ga h h1
  have pb := ptr_ok hb gb h h1
  have i1 := bm_inv h pa (far := rd s.1 (rd s.2 (i : Int)) + 1) (by omega) (by omega)
  have gq := g _ hc.1 hc.2.1 hc.2.2
  have g1 := bm_ball h g pa (fun e => hP _ _ _ hv.1 hc.1 hc.2.1 gq (Or.inl rfl) e)
  exact bm_ball i1 g1 pb (fun e => hP _ _ _ hv.1 hc.1 hc.2.1 gq (Or.inr rfl) e)
theorem bloop_ball {n : Nat} {P : Int → Int → Prop} {a b : List Int} (ha : a.length = n) (hb : b.length = n) (ga : ∀ x ∈ a, -1 ≤ x ∧ x < (n : Int)) (gb : ∀ x ∈ b, -1 ≤ x ∧ x < (n : Int)) (hP : ∀ (d x y : Int), 1 ≤ d → 0 ≤ x → x < (n : Int) → P d x → (rd a x = y ∨ rd b x = y) → y ≠ -1 → P (d + 1) y) : ∀ (m i : Nat) (s : List Int × List Int), Binv n s → Ball n P s → Ball n P (bloop a b m i s)
  | 0, _, _, _, g => g
  | m + 1, i, s, h, g => by
    rw [bloop]
    by_cases c : i < s.2.length
    · rw [if_pos c]
      exact bloop_ball ha hb ga gb hP m (i + 1) _ (bstep_inv ha hb ga gb h (by omega) (by omega)) (bstep_ball ha hb ga gb hP h g c)
    · rw [if_neg c]; exact g
theorem distM_ball {P : Int → Int → Prop} {a b c : List Int} (hb : b.length = a.length) (ga : ∀ x ∈ a, -1 ≤ x ∧ x < (a.length : Int)) (gb : ∀ x ∈ b, -1 ≤ x ∧ x < (a.length : Int)) (gc : ∀ x ∈ c, -1 ≤ x ∧ x < (a.length : Int)) (h1 : ∀ x ∈ c, x ≠ -1 → P 1 x) (hP : ∀ (d x y : Int), 1 ≤ d → 0 ≤ x → x < (a.length : Int) → P d x → (rd a x = y ∨ rd b x = y) → y ≠ -1 → P (d + 1) y) {x : Int} (x0 : 0 ≤ x) (x1 : x < (a.length : Int)) (x2 : 1 ≤ rd (distM a b c) x) : P (rd (distM a b c) x) x :=
  bloop_ball rfl hb ga gb hP _ _ _ (broots_inv c _ gc (bstart_inv _)) (broots_ball c _ gc h1 (bstart_inv _) (bstart_ball _ P)) x x0 x1 x2
/-- A cell with a distance has a way of that length. -/
theorem distM_way {a b c : List Int} (hb : b.length = a.length) (ga : ∀ x ∈ a, -1 ≤ x ∧ x < (a.length : Int)) (gb : ∀ x ∈ b, -1 ≤ x ∧ x < (a.length : Int)) (gc : ∀ x ∈ c, -1 ≤ x ∧ x < (a.length : Int)) {x : Int} (x0 : 0 ≤ x) (x1 : x < (a.length : Int)) (x2 : 1 ≤ rd (distM a b c) x) : way a b c (rd (distM a b c) x).toNat x := by
  refine distM_ball (P := fun d x => way a b c d.toNat x) hb ga gb gc (fun x hx e => way_start (by have := gc x hx; omega) hx) (fun d x y d1 y0 y1 w e e1 => ?_) x0 x1 x2
  have h0 : 0 ≤ y := by
    rcases e with e | e
    · have := ga _ (rd_mem a x y0 y1); omega
    · have := gb _ (rd_mem b x y0 (by omega)); omega
  have := way_next w h0 e
  rwa [show d.toNat + 1 = (d + 1).toNat from by omega] at this
/-- Starts are met at distance one. -/
theorem broots_val {n : Nat} (c : List Int) (hc : ∀ x ∈ c, -1 ≤ x ∧ x < (n : Int)) {x : Int} (h0 : 0 ≤ x) (h1 : x < (n : Int)) (h2 : 1 ≤ rd (broots c (bstart n)).1 x) : rd (broots c (bstart n)).1 x = 1 :=
  broots_ball (P := fun d _ => d = 1) c _ hc (fun _ _ _ => rfl) (bstart_inv n) (bstart_ball n _) x h0 h1 h2
theorem distM_one {a b c : List Int} (hb : b.length = a.length) (ga : ∀ x ∈ a, -1 ≤ x ∧ x < (a.length : Int)) (gb : ∀ x ∈ b, -1 ≤ x ∧ x < (a.length : Int)) (gc : ∀ x ∈ c, -1 ≤ x ∧ x < (a.length : Int)) {p : Int} (hp : p ∈ c) (h0 : 0 ≤ p) : rd (distM a b c) p = 1 := by
  have i0 := broots_inv c _ gc (bstart_inv a.length)
  have r := (broots_one c _ gc (bstart_inv a.length) p hp).resolve_left (by omega)
  have v := broots_val c gc h0 (gc p hp).2 r
  have k := bloop_keep rfl hb ga gb (a.length + 1) 0 _ i0 h0 r
  exact k.trans v
theorem ha_hv {a b c : List Int} (h : hv a b c = true) : b.length = a.length := (hv_len h).1.symm
theorem rd_zeros (n : Nat) (q : Int) : rd (List.replicate n 0) q = 0 := by
  unfold rd; rw [List.getD_eq_getElem?_getD, List.getElem?_replicate]; split <;> rfl
/-- The first cell from i on with distance v that points to x. -/
def fnd (a b d : List Int) (x v : Int) (i : Nat) : Option Int := ((List.range d.length).drop i).findSome? (fun (j : Nat) => if rd d (j : Int) = v ∧ (rd a (j : Int) = x ∨ rd b (j : Int) = x) then some (j : Int) else none)
/-- A way to its head, whose distance is m + 1, made longer to a start. -/
def pathFrom (a b d : List Int) : Nat → List Int → List Int
  | 0, o => o
  | m + 1, o => match fnd a b d (rd o 0) ((m : Int) + 1) 0 with
    | some j => pathFrom a b d m (j :: o)
    | none => o
def pathM (a b c : List Int) (x : Int) : List Int × Bool := if cellM a b c x = true then (if rd (distM a b c) x < 0 then ([], false) else (pathFrom a b (distM a b c) ((rd (distM a b c) x).toNat - 1) [x], true)) else ([], false)
/-- A cell at distance one is a start. -/
theorem dist_one_root {a b c : List Int} (h : hv a b c = true) {x : Int} (h0 : 0 ≤ x) (h1 : x < (a.length : Int)) (hd : rd (distM a b c) x = 1) : x ∈ c := by
  have w := distM_way (ha_hv h) (hv_a h) (hv_b h) (hv_c h) h0 h1 (by omega)
  rw [hd] at w
  rcases w.2 with ⟨_, e⟩ | ⟨y, w, _⟩
  · exact e
  · exact absurd w (fun h => h)
/-- A cell to which a root points is at distance one, and is its own way. -/
theorem root_near {a b c : List Int} (h : hv a b c = true) {t : Int} (ht : t ∈ c) (t0 : 0 ≤ t) : doM a b c t = (1, true) ∧ pathM a b c t = ([t], true) := by
  have hd := distM_one (ha_hv h) (hv_a h) (hv_b h) (hv_c h) ht t0
  have hc : cellM a b c t = true := cellM_iff.2 ⟨h, t0, (hv_c h t ht).2⟩
  refine ⟨?_, ?_⟩
  · unfold doM; rw [if_pos hc, if_neg (by omega), hd]
  · unfold pathM; rw [if_pos hc, if_neg (by omega), hd]; rfl
/-- Behind the shading of the roots of a white heap a cell is gray exactly if it is at distance one. -/
theorem gray_dist {a b c : List Int} (h : hv a b c = true) {i : Nat} (hi : i < a.length) : rd (shAll c (List.replicate a.length 0)) (i : Int) = 1 ↔ doM a b c (i : Int) = (1, true) := by
  have hc : cellM a b c (i : Int) = true := cellM_iff.2 ⟨h, by omega, by omega⟩
  have r := shAll_rd (n := a.length) c (List.replicate a.length 0) (by simp) (hv_c h) (q := (i : Int)) (by omega)
  rw [rd_zeros] at r
  rw [r]
  constructor
  · intro g
    by_cases m : (i : Int) ∈ c
    · exact (root_near h m (by omega)).1
    · rw [if_neg (fun k => m k.1)] at g; omega
  · intro g
    unfold doM at g
    rw [if_pos hc] at g
    by_cases z : rd (distM a b c) (i : Int) < 0
    · rw [if_pos z] at g; exact absurd (congrArg Prod.snd g) (by simp)
    · rw [if_neg z] at g
      have d1 : rd (distM a b c) (i : Int) = 1 := congrArg Prod.fst g
      rw [if_pos ⟨dist_one_root h (by omega) (by omega) d1, rfl⟩]
theorem Equal_l0 (a b : List Int) (he : a.length = b.length) (hl : a.length ≤ 9223372036854775807) : ∀ (d n k : Nat), n ≤ a.length → a.length - n = d → d < k →
    slices_Equal_int_int.l0 k a b (a.length : Int) (n : Int) = some (decide (a.drop n = b.drop n)) := by
  intro d
  induction d with
  | zero =>
    intro n k hn hd hk
    obtain ⟨k, rfl⟩ : ∃ m, k = m + 1 := ⟨k - 1, by omega⟩
    rw [slices_Equal_int_int.l0, if_neg (by omega), List.drop_eq_nil_of_le (by omega), List.drop_eq_nil_of_le (by omega)]
    simp
  | succ d ih =>
    intro n k hn hd hk
    obtain ⟨k, rfl⟩ : ∃ m, k = m + 1 := ⟨k - 1, by omega⟩
    have hlt : n < a.length := by omega
    have hlt2 : n < b.length := by omega
    rw [slices_Equal_int_int.l0, if_pos (by omega), if_pos (by omega), if_pos (by omega), if_pos (by omega), drop_rd a n hlt, drop_rd b n hlt2]
    by_cases h : rd a (n : Int) = rd b (n : Int)
    · rw [if_pos h, wrap_succ hlt hl, ih (n + 1) k (by omega) (by omega) (by omega), h]
      simp
    · rw [if_neg h]
      simp [h]
theorem Equal_tells (a b : List Int) (k : Nat) (hl : a.length ≤ 9223372036854775807) (hk : a.length < k) : slices_Equal_int_int.f k a b = some (decide (a = b)) := by
  unfold slices_Equal_int_int.f
  by_cases h : a.length = b.length
  · rw [if_pos (by omega)]
    refine Eq.trans (Equal_l0 a b h hl a.length 0 k (by omega) (by omega) hk) ?_
    simp
  · rw [if_neg (by omega)]
    have : a ≠ b := fun e => h (by rw [e])
    simp [this]
theorem implHeapSame_tells (a b c a' b' c' : List Int) (k : Nat) (ha : a.length ≤ 1048576) (hb : b.length ≤ 1048576) (hc : c.length ≤ 1048576) (hk : 1048577 ≤ k) :
    impl_HeapSame.f k a b c a' b' c' = some (decide (a = a' ∧ b = b' ∧ c = c')) := by
  unfold impl_HeapSame.f
  rw [Equal_tells a a' k (by omega) (by omega)]
  simp only [Option.bind_some, decide_eq_true_eq]
  by_cases h1 : a = a'
  · rw [if_pos h1, Equal_tells b b' k (by omega) (by omega)]
    simp only [Option.bind_some, decide_eq_true_eq]
    by_cases h2 : b = b'
    · rw [if_pos h2, Equal_tells c c' k (by omega) (by omega)]
      simp [h1, h2]
    · rw [if_neg h2]; simp [h2]
  · rw [if_neg h1]; simp [h1]
theorem implColoredSame_tells (a b c e a' b' c' e' : List Int) (k : Nat) (ha : a.length ≤ 1048576) (hb : b.length ≤ 1048576) (hc : c.length ≤ 1048576) (he : e.length ≤ 1048576) (hk : 1048577 ≤ k) :
    impl_ColoredSame.f k a b c e a' b' c' e' = some (decide (a = a' ∧ b = b' ∧ c = c' ∧ e = e')) := by
  unfold impl_ColoredSame.f
  rw [implHeapSame_tells a b c a' b' c' k ha hb hc hk]
  simp only [Option.bind_some, decide_eq_true_eq]
  by_cases h1 : a = a' ∧ b = b' ∧ c = c'
  · rw [if_pos h1, Equal_tells e e' k (by omega) (by omega)]
    obtain ⟨rfl, rfl, rfl⟩ := h1
    simp
  · rw [if_neg h1]
    simp only [Option.some.injEq]
    exact (decide_eq_false (fun h => h1 ⟨h.1, h.2.1, h.2.2.1⟩)).symm
theorem fresh_tells (a b c e : List Int) (ha : a.length ≤ 1048576) (hb : b.length ≤ 1048576) (hc : c.length ≤ 1048576) (he : e.length ≤ 1048576) : impl_fresh.f a b c e = some (a, b, c, e) := by
  unfold impl_fresh.f
  rw [copied_tells a b c ha hb hc]
  simp only [Option.bind_some]
  unfold slices_Clone_int_int.f
  rw [if_pos (by omega)]
  rfl
theorem shade_tells {e : List Int} {p : Int} (hp : p = -1 ∨ (0 ≤ p ∧ p < (e.length : Int))) : impl_shade.f e p = some (sh e p) := by
  unfold impl_shade.f sh
  by_cases h : p = -1
  · rw [if_pos h, if_neg (fun k => k.1 h)]
  · obtain ⟨h0, h1⟩ := hp.resolve_left h
    rw [if_neg h, if_pos h0, if_pos h1]
    by_cases g : rd e p = 0
    · rw [if_pos g, if_pos ⟨h, g⟩]
    · rw [if_neg g, if_neg (fun k => g k.2)]
theorem implSR_l0 (a b r c : List Int) {n : Nat} (hc : ∀ x ∈ c, -1 ≤ x ∧ x < (n : Int)) (hl : c.length ≤ 1048576) : ∀ (d i k : Nat) (e : List Int), i ≤ c.length → c.length - i = d → d < k → e.length = n → impl_ShadeRoots.l0 k c (c.length : Int) (i : Int) a b r e = some (a, b, r, shAll (c.drop i) e, true) := by
  intro d
  induction d with
  | zero =>
    intro i k e hi hd hk he
    obtain ⟨k, rfl⟩ : ∃ m, k = m + 1 := ⟨k - 1, by omega⟩
    rw [impl_ShadeRoots.l0, if_neg (by omega), List.drop_eq_nil_of_le (by omega)]
    rfl
  | succ d ih =>
    intro i k e hi hd hk he
    obtain ⟨k, rfl⟩ : ∃ m, k = m + 1 := ⟨k - 1, by omega⟩
    have hlt : i < c.length := by omega
    have hm := hc _ (rd_mem c (i : Int) (by omega) (by omega))
    rw [impl_ShadeRoots.l0, if_pos (by omega), if_pos (by omega), if_pos (by omega), shade_tells (by omega), drop_rd c i hlt]
    simp only [Option.bind_some]
    rw [wrap_succ hlt (by omega), ih (i + 1) k (sh e (rd c (i : Int))) (by omega) (by omega) (by omega) ((sh_len e _).trans he)]
    rfl
theorem implSR_tells (a b c e : List Int) (k : Nat) (he : e.length ≤ 1048576) (hk : 1048601 ≤ k) : impl_ShadeRoots.f k a b c e = some (srM a b c e) := by
  unfold impl_ShadeRoots.f
  rw [implCV_tells a b c e _ he (by omega)]
  simp only [Option.bind_some]
  unfold srM
  by_cases h : cv a b c e = true
  · have hl := cv_lens h
    have hc := hv_c (cv_iff.1 h).1
    rw [if_pos h, if_pos h, fresh_tells a b c e (by omega) (by omega) (by omega) he]
    simp only [Option.bind_some]
    exact implSR_l0 a b c c hc (by omega) c.length 0 k e (by omega) (by omega) (by omega) (by omega)
  · rw [if_neg h, if_neg h]
theorem srM_pos {a b c e : List Int} (h : cv a b c e = true) : srM a b c e = (a, b, c, shAll c e, true) := by unfold srM; rw [if_pos h]
theorem ccnt_zeros (n : Nat) : ccnt 0 (List.replicate n 0) = n := by
  induction n with
  | zero => rfl
  | succ n ih => rw [List.replicate_succ, ccnt, if_pos rfl, ih]; omega
theorem lawRG_l0 {a b c : List Int} (h : hv a b c = true) : ∀ (d i m k : Nat), i ≤ a.length → a.length - i = d → d + 1048700 < k → m ≤ i → m + ccnt 1 ((shAll c (List.replicate a.length 0)).drop i) = ccnt 1 (shAll c (List.replicate a.length 0)) →
    laws_FnRootsGray.l0 k true (m : Int) (i : Int) a b c a b c (List.replicate a.length 0) a b c (shAll c (List.replicate a.length 0)) = some true := by
  have hl := hv_len h
  have hz := cv_zeros h
  have hs := cv_shAll hz c
  have hsl := cv_lens hs
  have hzl := cv_lens hz
  intro d
  induction d with
  | zero =>
    intro i m k hi hd hk hm hc
    obtain ⟨k, rfl⟩ : ∃ q, k = q + 1 := ⟨k - 1, by omega⟩
    rw [ccnt_nil _ _ _ (by omega)] at hc
    rw [laws_FnRootsGray.l0, if_neg (by omega), if_pos rfl, implCC_tells a b c _ 1 k (by omega) (by omega), ccM_pos hs, implCC_tells a b c _ 0 k (by omega) (by omega), ccM_pos hz, ccnt_zeros]
    simp only [Option.bind_some]
    rw [if_pos (by omega)]
    simp
  | succ d ih =>
    intro i m k hi hd hk hm hc
    obtain ⟨k, rfl⟩ : ∃ q, k = q + 1 := ⟨k - 1, by omega⟩
    have hlt : i < a.length := by omega
    have gd := gray_dist h hlt
    rw [ccnt_drop 1 _ i (by omega)] at hc
    rw [laws_FnRootsGray.l0, if_pos (by omega), implDO_tells a b c (i : Int) k (by omega), wrap_succ hlt (by omega)]
    simp only [Option.bind_some]
    by_cases g : rd (shAll c (List.replicate a.length 0)) (i : Int) = 1
    · rw [if_pos g] at hc
      rw [gd.1 g, if_pos rfl, if_pos rfl, wrap_p1 m (by omega)]
      exact ih (i + 1) (m + 1) k (by omega) (by omega) (by omega) (by omega) (by omega)
    · rw [if_neg g] at hc
      have nx := ih (i + 1) m k (by omega) (by omega) (by omega) (by omega) (by omega)
      by_cases g2 : (doM a b c (i : Int)).2 = true
      · rw [if_pos g2, if_neg (fun g1 => g (gd.2 (Prod.ext g1 g2)))]; exact nx
      · rw [if_neg g2]; exact nx
theorem pure_FnRootsGray (code : List Int) (_hl : code.length ≤ 9223372036854775807) (hb : ∀ x ∈ code, 0 ≤ x ∧ x ≤ 255) : ∃ k, laws_FnRootsGray.f k code = some true := by
  refine ⟨3200000, ?_⟩
  obtain ⟨k, hk⟩ : ∃ k : Nat, k = 3199999 := ⟨_, rfl⟩
  rw [show 3200000 = k + 1 from by omega]
  unfold laws_FnRootsGray.f
  by_cases h0 : (code.length : Int) > 1048576
  · rw [if_pos h0]
  rw [if_neg h0]
  obtain ⟨a, b, c, e1, s1, s2, s3⟩ := drawNewColored_tells (code := code) hb (k + 1) (by omega)
  have hm := ncM_lens a b c
  rw [e1]
  simp only [Option.bind_some]
  rw [implNC_tells a b c (k + 1) (by omega), specNC_tells a b c (k + 1) (by omega)]
  simp only [Option.bind_some]
  rw [implColoredSame_tells _ _ _ _ _ _ _ _ (k + 1) (by omega) (by omega) (by omega) (by omega) (by omega)]
  simp only [Option.bind_some]
  rw [if_pos (by simp), if_neg (by simp), laws_FnRootsGray.j0]
  by_cases h : hv a b c = true
  · have hz := cv_zeros h
    have hl := cv_lens hz
    rw [ncM_pos h, if_neg (by simp), implSR_tells a b c (List.replicate a.length 0) k (by omega) (by omega), srM_pos hz]
    simp only [Option.bind_some]
    exact lawRG_l0 h a.length 0 0 k (by omega) (by omega) (by omega) (by omega) (by rw [List.drop_zero]; omega)
  · rw [ncM_neg h, if_pos (by simp), implColoredSame_tells _ _ _ _ _ _ _ _ k (by simp) (by simp) (by simp) (by simp) (by omega)]
    simp
end Go.Proofs.Ytkbaggfkidalfaa.A
