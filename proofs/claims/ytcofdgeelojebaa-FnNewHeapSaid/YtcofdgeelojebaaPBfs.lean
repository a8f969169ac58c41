/- Contracts of functions of the given program (PBfs). No conditions beyond those stated. -/
import Derived.Test.YtcofdgeelojebaaPBase
import Derived.Test.YtcofdgeelojebaaPCp
import Derived.Test.YtcofdgeelojebaaPHvdef
import Derived.Test.YtcofdgeelojebaaA0
namespace Go.Proofs.Ytcofdgeelojebaa.A
open Go.RowKit Go.Proofs.YtcofdgeelojebaaW.PrintWords Go.Proofs.YtcofdgeelojebaaW.PrintLast Go.Proofs.YtcofdgeelojebaaW.PrintMore
attribute [local go_sem] max2_int min2_int max_two min_two max_three min_three max_four min_four   -- for this text's walks alone
set_option linter.unusedVariables false
set_option linter.unusedSimpArgs false

theorem rd_set_eq (l : List Int) (p v : Int) (h0 : 0 ≤ p) (h : p < (l.length : Int)) : rd (l.set p.toNat v) p = v := by
  unfold rd; rw [List.getD_eq_getElem?_getD, List.getElem?_set_self (by omega)]; rfl
theorem rd_set_ne (l : List Int) (p q v : Int) (h0 : 0 ≤ p) (h1 : 0 ≤ q) (h : p ≠ q) : rd (l.set p.toNat v) q = rd l q := by
  unfold rd; rw [List.getD_eq_getElem?_getD, List.getElem?_set_ne (by omega), List.getD_eq_getElem?_getD]
theorem rd_app (l m : List Int) (i : Int) (h0 : 0 ≤ i) (h : i < (l.length : Int)) : rd (l ++ m) i = rd l i := by
  unfold rd; rw [List.getD_eq_getElem?_getD, List.getD_eq_getElem?_getD, List.getElem?_append_left (by omega)]
theorem rd_mem (l : List Int) (i : Int) (h0 : 0 ≤ i) (h : i < (l.length : Int)) : rd l i ∈ l := by
  obtain ⟨n, rfl⟩ : ∃ n : Nat, i = (n : Int) := ⟨i.toNat, by omega⟩
  rw [rd_nat l n (by omega)]; exact List.getElem_mem _
/-- How many numbers are negative. -/
def negs : List Int → Nat
  | [] => 0
  | x :: l => (if x < 0 then 1 else 0) + negs l
theorem negs_rep (n : Nat) : negs (List.replicate n (-1)) = n := by
  induction n with
  | zero => rfl
  | succ n ih => rw [List.replicate_succ, negs, ih, if_pos (by omega)]; omega
theorem negs_set : ∀ (l : List Int) (i : Nat) (v : Int), i < l.length → l.getD i 0 < 0 → 0 ≤ v → negs (l.set i v) + 1 = negs l
  | [], i, v, h, _, _ => absurd h (by simp)
  | x :: l, 0, v, h, h2, h3 => by
    have h2' : x < 0 := h2
    rw [List.set_cons_zero, negs, negs, if_neg (by omega), if_pos h2']; omega
  | x :: l, i + 1, v, h, h2, h3 => by
    have := negs_set l i v (by simpa using h) (by simpa using h2) h3
    rw [List.set_cons_succ, negs, negs]; omega
/-- A pointer is met: the cells' distances, the cells met so far. -/
def bm (s : List Int × List Int) (p far : Int) : List Int × List Int := if p ≠ -1 ∧ rd s.1 p < 0 then (s.1.set p.toNat far, s.2 ++ [p]) else s
def bstep (a b : List Int) (s : List Int × List Int) (i : Int) : List Int × List Int :=
  bm (bm s (rd a (rd s.2 i)) (rd s.1 (rd s.2 i) + 1)) (rd b (rd s.2 i)) (rd s.1 (rd s.2 i) + 1)
def broots (c : List Int) (s : List Int × List Int) : List Int × List Int := c.foldl (fun s p => bm s p 1) s
def bloop (a b : List Int) : Nat → Nat → List Int × List Int → List Int × List Int
  | 0, _, s => s
  | m + 1, i, s => if i < s.2.length then bloop a b m (i + 1) (bstep a b s (i : Int)) else s
def bstart (n : Nat) : List Int × List Int := (List.replicate n (-1), [])
/-- The distances of all cells from some cells, or -1. -/
def distM (a b c : List Int) : List Int := (bloop a b (a.length + 1) 0 (broots c (bstart a.length))).1
structure Binv (n : Nat) (s : List Int × List Int) : Prop where
  len : s.1.length = n
  op : ∀ x ∈ s.2, 0 ≤ x ∧ x < (n : Int) ∧ 1 ≤ rd s.1 x
  val : ∀ x : Int, 0 ≤ x → x < (n : Int) → rd s.1 x = -1 ∨ (1 ≤ rd s.1 x ∧ rd s.1 x ≤ (s.2.length : Int))
  cnt : s.2.length + negs s.1 = n
theorem Binv.le {n : Nat} {s : List Int × List Int} (h : Binv n s) : s.2.length ≤ n := by have := h.cnt; omega
theorem rd_rep (n : Nat) (v x : Int) (h0 : 0 ≤ x) (h : x < (n : Int)) : rd (List.replicate n v) x = v := by
  unfold rd; rw [List.getD_eq_getElem?_getD, List.getElem?_replicate, if_pos (by omega)]; rfl
theorem bstart_inv (n : Nat) : Binv n (bstart n) := by
  refine ⟨by simp [bstart], fun x hx => absurd hx (by simp [bstart]), fun x h0 h1 => Or.inl ?_, by simp [bstart, negs_rep]⟩
  exact rd_rep n (-1) x h0 h1
theorem bm_inv {n : Nat} {s : List Int × List Int} (h : Binv n s) {p far : Int} (hp : p = -1 ∨ (0 ≤ p ∧ p < (n : Int))) (h1 : 1 ≤ far) (h2 : far ≤ (s.2.length : Int) + 1) : Binv n (bm s p far) := by
  unfold bm
  by_cases c : p ≠ -1 ∧ rd s.1 p < 0
  · rw [if_pos c]
    obtain ⟨hp0, hp1⟩ : 0 ≤ p ∧ p < (n : Int) := hp.resolve_left c.1
    have hl := h.len
    refine ⟨by simp [hl], fun x hx => ?_, fun x h0 hx => ?_, ?_⟩
    · rcases List.mem_append.1 hx with hx | hx
      · obtain ⟨a0, a1, a2⟩ := h.op x hx
        refine ⟨a0, a1, ?_⟩
        show 1 ≤ rd (s.1.set p.toNat far) x
        by_cases e : p = x
        · subst e; rw [rd_set_eq _ _ _ a0 (by omega)]; exact h1
        · rw [rd_set_ne _ _ _ _ hp0 a0 e]; exact a2
      · obtain rfl : x = p := by simpa using hx
        refine ⟨hp0, hp1, ?_⟩
        show 1 ≤ rd (s.1.set x.toNat far) x
        rw [rd_set_eq _ _ _ hp0 (by omega)]; exact h1
    · show rd (s.1.set p.toNat far) x = -1 ∨ (1 ≤ rd (s.1.set p.toNat far) x ∧ rd (s.1.set p.toNat far) x ≤ ((s.2 ++ [p]).length : Int))
      have el : ((s.2 ++ [p]).length : Int) = (s.2.length : Int) + 1 := by simp
      rw [el]
      by_cases e : p = x
      · subst e; rw [rd_set_eq _ _ _ h0 (by omega)]; exact Or.inr ⟨h1, h2⟩
      · rw [rd_set_ne _ _ _ _ hp0 h0 e]
        rcases h.val x h0 hx with v | v
        · exact Or.inl v
        · exact Or.inr ⟨v.1, by omega⟩
    · show (s.2 ++ [p]).length + negs (s.1.set p.toNat far) = n
      have := negs_set s.1 p.toNat far (by omega) c.2 (by omega)
      have := h.cnt
      simp; omega
  · rw [if_neg c]; exact h
theorem bm_keep {n : Nat} {s : List Int × List Int} (h : Binv n s) {p far : Int} (hp : p = -1 ∨ (0 ≤ p ∧ p < (n : Int))) {x : Int} (h0 : 0 ≤ x) (hx : 1 ≤ rd s.1 x) : rd (bm s p far).1 x = rd s.1 x := by
  unfold bm
  by_cases c : p ≠ -1 ∧ rd s.1 p < 0
  · rw [if_pos c]
    obtain ⟨hp0, hp1⟩ : 0 ≤ p ∧ p < (n : Int) := hp.resolve_left c.1
    exact rd_set_ne _ _ _ _ hp0 h0 (fun e => by subst e; omega)
  · rw [if_neg c]
theorem bm_len (s : List Int × List Int) (p far : Int) : s.2.length ≤ (bm s p far).2.length := by unfold bm; split <;> simp
theorem bm_op (s : List Int × List Int) (p far : Int) (i : Int) (h0 : 0 ≤ i) (h : i < (s.2.length : Int)) : rd (bm s p far).2 i = rd s.2 i := by
  unfold bm
  split
  · exact rd_app _ _ _ h0 h
  · rfl
theorem okp_ptr {n : Nat} {l : List Int} (h : ∀ x ∈ l, -1 ≤ x ∧ x < (n : Int)) {i : Int} (h0 : 0 ≤ i) (h1 : i < (l.length : Int)) : rd l i = -1 ∨ (0 ≤ rd l i ∧ rd l i < (n : Int)) := by
  have := h _ (rd_mem l i h0 h1); omega
theorem bstep_inv {n : Nat} {a b : List Int} (ha : a.length = n) (hb : b.length = n) (ga : ∀ x ∈ a, -1 ≤ x ∧ x < (n : Int)) (gb : ∀ x ∈ b, -1 ≤ x ∧ x < (n : Int)) {s : List Int × List Int} (h : Binv n s) {i : Int} (h0 : 0 ≤ i) (h1 : i < (s.2.length : Int)) : Binv n (bstep a b s i) := by
  have hc := h.op _ (rd_mem s.2 i h0 h1)
  have hv : 1 ≤ rd s.1 (rd s.2 i) ∧ rd s.1 (rd s.2 i) ≤ (s.2.length : Int) := by
    rcases h.val _ hc.1 hc.2.1 with v | v
    · omega
    · exact v
  have i1 := bm_inv h (p := rd a (rd s.2 i)) (far := rd s.1 (rd s.2 i) + 1) (okp_ptr ga hc.1 (by omega)) (by omega) (by omega)
  exact bm_inv i1 (okp_ptr gb hc.1 (by omega)) (by omega) (by have := bm_len s (rd a (rd s.2 i)) (rd s.1 (rd s.2 i) + 1); omega)
theorem bstep_len (a b : List Int) (s : List Int × List Int) (i : Int) : s.2.length ≤ (bstep a b s i).2.length := Nat.le_trans (bm_len _ _ _) (bm_len _ _ _)
theorem broots_inv {n : Nat} : ∀ (c : List Int) (s : List Int × List Int), (∀ x ∈ c, -1 ≤ x ∧ x < (n : Int)) → Binv n s → Binv n (broots c s)
  | [], s, _, h => h
  | p :: c, s, hc, h => broots_inv c (bm s p 1) (fun x hx => hc x (by simp [hx])) (bm_inv h (by have := hc p (by simp); omega) (by omega) (by omega))
theorem bloop_inv {n : Nat} {a b : List Int} (ha : a.length = n) (hb : b.length = n) (ga : ∀ x ∈ a, -1 ≤ x ∧ x < (n : Int)) (gb : ∀ x ∈ b, -1 ≤ x ∧ x < (n : Int)) : ∀ (m i : Nat) (s : List Int × List Int), Binv n s → Binv n (bloop a b m i s)
  | 0, _, _, h => h
  | m + 1, i, s, h => by
    rw [bloop]
    split
    · exact bloop_inv ha hb ga gb m (i + 1) _ (bstep_inv ha hb ga gb h (by omega) (by omega))
    · exact h
theorem distM_inv {a b c : List Int} (hb : b.length = a.length) (ga : ∀ x ∈ a, -1 ≤ x ∧ x < (a.length : Int)) (gb : ∀ x ∈ b, -1 ≤ x ∧ x < (a.length : Int)) (gc : ∀ x ∈ c, -1 ≤ x ∧ x < (a.length : Int)) : Binv a.length (bloop a b (a.length + 1) 0 (broots c (bstart a.length))) :=
  bloop_inv rfl hb ga gb _ _ _ (broots_inv c _ gc (bstart_inv _))
/-- A reached cell that is no start has one before it. -/
def Bpred (n : Nat) (a b : List Int) (s : List Int × List Int) : Prop := ∀ x : Int, 0 ≤ x → x < (n : Int) → 1 < rd s.1 x → ∃ c : Int, 0 ≤ c ∧ c < (n : Int) ∧ rd s.1 c = rd s.1 x - 1 ∧ (rd a c = x ∨ rd b c = x)
theorem bm_pred {n : Nat} {a b : List Int} {s : List Int × List Int} (h : Binv n s) (g : Bpred n a b s) {p far : Int} (hp : p = -1 ∨ (0 ≤ p ∧ p < (n : Int))) (hf : far = 1 ∨ ∃ c : Int, 0 ≤ c ∧ c < (n : Int) ∧ 1 ≤ rd s.1 c ∧ rd s.1 c = far - 1 ∧ (rd a c = p ∨ rd b c = p)) : Bpred n a b (bm s p far) := by
  intro x h0 h1 h2
  have key : ∀ c : Int, 0 ≤ c → 1 ≤ rd s.1 c → rd (bm s p far).1 c = rd s.1 c := fun c c0 c1 => bm_keep h hp c0 c1
  by_cases hx : 1 ≤ rd s.1 x
  · rw [key x h0 hx] at h2
    obtain ⟨c, c0, c1, c2, c3⟩ := g x h0 h1 h2
    exact ⟨c, c0, c1, by rw [key c c0 (by omega), key x h0 hx]; exact c2, c3⟩
  · unfold bm at h2
    by_cases cc : p ≠ -1 ∧ rd s.1 p < 0
    · rw [if_pos cc] at h2
      have hl := h.len
      obtain ⟨hp0, hp1⟩ := hp.resolve_left cc.1
      have h2' : 1 < rd (s.1.set p.toNat far) x := h2
      by_cases e : p = x
      · subst e
        rw [rd_set_eq _ _ _ h0 (by omega)] at h2'
        rcases hf with rfl | ⟨c, c0, c1, c2, c3, c4⟩
        · omega
        · refine ⟨c, c0, c1, ?_, c4⟩
          rw [key c c0 c2]
          unfold bm
          rw [if_pos cc]
          show rd s.1 c = rd (s.1.set p.toNat far) p - 1
          rw [rd_set_eq _ _ _ h0 (by omega)]; exact c3
      · rw [rd_set_ne _ _ _ _ hp0 h0 e] at h2'; omega
    · rw [if_neg cc] at h2; omega
theorem bstart_pred (n : Nat) (a b : List Int) : Bpred n a b (bstart n) := by
  intro x h0 h1 h2
  have : rd (bstart n).1 x = -1 := rd_rep n (-1) x h0 h1
  omega
theorem broots_pred {n : Nat} {a b : List Int} : ∀ (c : List Int) (s : List Int × List Int), (∀ x ∈ c, -1 ≤ x ∧ x < (n : Int)) → Binv n s → Bpred n a b s → Bpred n a b (broots c s)
  | [], s, _, _, g => g
  | p :: c, s, hc, h, g => broots_pred c (bm s p 1) (fun x hx => hc x (by simp [hx])) (bm_inv h (by have := hc p (by simp); omega) (by omega) (by omega)) (bm_pred h g (by have := hc p (by simp); omega) (Or.inl rfl))
theorem bstep_pred {n : Nat} {a b : List Int} (ha : a.length = n) (hb : b.length = n) (ga : ∀ x ∈ a, -1 ≤ x ∧ x < (n : Int)) (gb : ∀ x ∈ b, -1 ≤ x ∧ x < (n : Int)) {s : List Int × List Int} (h : Binv n s) (g : Bpred n a b s) {i : Int} (h0 : 0 ≤ i) (h1 : i < (s.2.length : Int)) : Bpred n a b (bstep a b s i) := by
  have hc := h.op _ (rd_mem s.2 i h0 h1)
  have hv : 1 ≤ rd s.1 (rd s.2 i) ∧ rd s.1 (rd s.2 i) ≤ (s.2.length : Int) := by
    rcases h.val _ hc.1 hc.2.1 with v | v
    · omega
    · exact v
  have pa := okp_ptr ga hc.1 (by omega)
  have pb := okp_ptr gb hc.1 (by omega)
  have i1 := bm_inv h (p := rd a (rd s.2 i)) (far := rd s.1 (rd s.2 i) + 1) pa (by omega) (by omega)
  have k1 := bm_keep h (p := rd a (rd s.2 i)) (far := rd s.1 (rd s.2 i) + 1) pa hc.1 hc.2.2
  have g1 := bm_pred h g (p := rd a (rd s.2 i)) (far := rd s.1 (rd s.2 i) + 1) pa (Or.inr ⟨rd s.2 i, hc.1, hc.2.1, hc.2.2, by omega, Or.inl rfl⟩)
  exact bm_pred i1 g1 pb (Or.inr ⟨rd s.2 i, hc.1, hc.2.1, by omega, by omega, Or.inr rfl⟩)
theorem bloop_pred {n : Nat} {a b : List Int} (ha : a.length = n) (hb : b.length = n) (ga : ∀ x ∈ a, -1 ≤ x ∧ x < (n : Int)) (gb : ∀ x ∈ b, -1 ≤ x ∧ x < (n : Int)) : ∀ (m i : Nat) (s : List Int × List Int), Binv n s → Bpred n a b s → Bpred n a b (bloop a b m i s)
  | 0, _, _, _, g => g
  | m + 1, i, s, h, g => by
    rw [bloop]
    split
    · exact bloop_pred ha hb ga gb m (i + 1) _ (bstep_inv ha hb ga gb h (by omega) (by omega)) (bstep_pred ha hb ga gb h g (by omega) (by omega))
    · exact g
theorem distM_pred {a b c : List Int} (hb : b.length = a.length) (ga : ∀ x ∈ a, -1 ≤ x ∧ x < (a.length : Int)) (gb : ∀ x ∈ b, -1 ≤ x ∧ x < (a.length : Int)) (gc : ∀ x ∈ c, -1 ≤ x ∧ x < (a.length : Int)) {x : Int} (h0 : 0 ≤ x) (h1 : x < (a.length : Int)) (h2 : 1 < rd (distM a b c) x) : ∃ y : Int, 0 ≤ y ∧ y < (a.length : Int) ∧ rd (distM a b c) y = rd (distM a b c) x - 1 ∧ (rd a y = x ∨ rd b y = x) :=
  bloop_pred rfl hb ga gb _ _ _ (broots_inv c _ gc (bstart_inv _)) (broots_pred c _ gc (bstart_inv _) (bstart_pred _ a b)) x h0 h1 h2
/-- What a valid heap gives for the distances. -/
theorem hv_a {a b c : List Int} (h : hv a b c = true) : ∀ x ∈ a, -1 ≤ x ∧ x < (a.length : Int) := (hv_iff.1 h).2.1
theorem hv_b {a b c : List Int} (h : hv a b c = true) : ∀ x ∈ b, -1 ≤ x ∧ x < (a.length : Int) := (hv_iff.1 h).2.2.1
theorem hv_c {a b c : List Int} (h : hv a b c = true) : ∀ x ∈ c, -1 ≤ x ∧ x < (a.length : Int) := (hv_iff.1 h).2.2.2
theorem two_ok {n : Nat} {x y : Int} (hx : -1 ≤ x ∧ x < (n : Int)) (hy : -1 ≤ y ∧ y < (n : Int)) : ∀ z ∈ [x, y], -1 ≤ z ∧ z < (n : Int) := by
  intro z hz
  rcases List.mem_cons.1 hz with rfl | hz
  · exact hx
  · obtain rfl : z = y := by simpa using hz
    exact hy
/-- The distance of a cell: 0 where there is none. -/
def hcM (a b c : List Int) (x : Int) : Bool := cellM a b c x && decide (rd (distM a b [rd a x, rd b x]) x > 0)
def doM (a b c : List Int) (x : Int) : Int × Bool := if cellM a b c x = true then (if rd (distM a b c) x < 0 then (0, false) else (rd (distM a b c) x, true)) else (0, false)
theorem distM_len {a b c : List Int} (hb : b.length = a.length) (ga : ∀ x ∈ a, -1 ≤ x ∧ x < (a.length : Int)) (gb : ∀ x ∈ b, -1 ≤ x ∧ x < (a.length : Int)) (gc : ∀ x ∈ c, -1 ≤ x ∧ x < (a.length : Int)) : (distM a b c).length = a.length := (distM_inv hb ga gb gc).len
theorem distM_val {a b c : List Int} (hb : b.length = a.length) (ga : ∀ x ∈ a, -1 ≤ x ∧ x < (a.length : Int)) (gb : ∀ x ∈ b, -1 ≤ x ∧ x < (a.length : Int)) (gc : ∀ x ∈ c, -1 ≤ x ∧ x < (a.length : Int)) {x : Int} (h0 : 0 ≤ x) (h1 : x < (a.length : Int)) : rd (distM a b c) x = -1 ∨ 1 ≤ rd (distM a b c) x := by
  rcases (distM_inv hb ga gb gc).val x h0 h1 with h | h
  · exact Or.inl h
  · exact Or.inr h.1

end Go.Proofs.Ytcofdgeelojebaa.A
