/- Plain laws on lists and numbers, for FnHeapValid. No conditions beyond those stated. -/
import Derived.Test.YtkbaggfkidalfaaCLawsFnHeapValid
import Derived.Test.YtkbaggfkidalfaaASpecDrawHeapValid
import Derived.Test.YtkbaggfkidalfaaASpecL1Draw
import Derived.Test.YtkbaggfkidalfaaPBase
import Derived.Test.YtkbaggfkidalfaaA0
import Derived.Test.YtkbaggfkidalfaaASpecL1Many
import Derived.Test.YtkbaggfkidalfaaASpecNewHeap
import Derived.Test.YtkbaggfkidalfaaASpecL13Open
import Derived.Test.YtkbaggfkidalfaaASpecL13RdNum
import Derived.Test.YtkbaggfkidalfaaASpecL13RdPick
import Derived.Test.YtkbaggfkidalfaaASpecL1Wrong
import Derived.Test.YtkbaggfkidalfaaASpecL1Copy
import Derived.Test.YtkbaggfkidalfaaAImplHeapValid
import Derived.Test.YtkbaggfkidalfaaASpecHeapValid
import Derived.Test.YtkbaggfkidalfaaASpecL1Points
namespace Go.Proofs.Ytkbaggfkidalfaa.A
open Go.RowKit Go.Proofs.YtkbaggfkidalfaaW.PrintWords Go.Proofs.YtkbaggfkidalfaaW.PrintLast Go.Proofs.YtkbaggfkidalfaaW.PrintMore
attribute [local go_sem] max2_int min2_int max_two min_two max_three min_three max_four min_four   -- for this text's walks alone
set_option linter.unusedVariables false
set_option linter.unusedSimpArgs false
/-- A pointer of a heap of n cells. -/
def okp (n : Nat) (x : Int) : Bool := decide (-1 ≤ x ∧ x < (n : Int))
def hv (a b c : List Int) : Bool := decide (a.length = b.length ∧ 1 ≤ a.length ∧ a.length ≤ 8 ∧ 1 ≤ c.length ∧ c.length ≤ 3) && (a.all (okp a.length) && (b.all (okp a.length) && c.all (okp a.length)))
theorem hv_len {a b c : List Int} (h : hv a b c = true) : a.length = b.length ∧ 1 ≤ a.length ∧ a.length ≤ 8 ∧ 1 ≤ c.length ∧ c.length ≤ 3 := by
  unfold hv at h
  rw [Bool.and_eq_true] at h
  exact of_decide_eq_true h.1
theorem okp_iff {n : Nat} {x : Int} : okp n x = true ↔ -1 ≤ x ∧ x < (n : Int) := by unfold okp; exact decide_eq_true_iff
theorem hv_iff {a b c : List Int} : hv a b c = true ↔ (a.length = b.length ∧ 1 ≤ a.length ∧ a.length ≤ 8 ∧ 1 ≤ c.length ∧ c.length ≤ 3) ∧ (∀ x ∈ a, -1 ≤ x ∧ x < (a.length : Int)) ∧ (∀ x ∈ b, -1 ≤ x ∧ x < (a.length : Int)) ∧ (∀ x ∈ c, -1 ≤ x ∧ x < (a.length : Int)) := by
  unfold hv
  simp only [Bool.and_eq_true, decide_eq_true_eq, List.all_eq_true, okp_iff]
theorem all_drop_cons (p : Int → Bool) (l : List Int) (n : Nat) (h : n < l.length) : (l.drop n).all p = (p (rd l (n : Int)) && (l.drop (n + 1)).all p) := by
  rw [drop_rd l n h, List.all_cons]
theorem all_drop_nil (p : Int → Bool) (l : List Int) (n : Nat) (h : l.length ≤ n) : (l.drop n).all p = true := by
  rw [List.drop_eq_nil_of_le h, List.all_nil]
def nhM (c r : Int) : List Int × List Int × List Int × Bool := if 1 ≤ c ∧ c ≤ 8 ∧ 1 ≤ r ∧ r ≤ 3 then (List.replicate c.toNat (-1), List.replicate c.toNat (-1), List.replicate r.toNat (-1), true) else ([], [], [], false)
theorem many_l0 (n : Nat) (hn : n ≤ 1000) : ∀ (d i k : Nat), i ≤ n → n - i = d → d < k → spec_l1Many.l0 k (n : Int) (List.replicate i (-1)) (i : Int) = some (List.replicate n (-1)) := by
  intro d
  induction d with
  | zero =>
    intro i k hi hd hk
    obtain ⟨k, rfl⟩ : ∃ m, k = m + 1 := ⟨k - 1, by omega⟩
    obtain rfl : i = n := by omega
    rw [spec_l1Many.l0, if_neg (by omega)]
  | succ d ih =>
    intro i k hi hd hk
    obtain ⟨k, rfl⟩ : ∃ m, k = m + 1 := ⟨k - 1, by omega⟩
    rw [spec_l1Many.l0, if_pos (by omega), if_pos (by simp; omega), wrap_succ (m := n) (by omega) (by omega), ← List.replicate_succ']
    exact ih (i + 1) k (by omega) (by omega) (by omega)
theorem many_tells (n k : Nat) (hn : n ≤ 1000) (hk : n < k) : spec_l1Many.f k (n : Int) = some (List.replicate n (-1)) := by
  unfold spec_l1Many.f
  exact many_l0 n hn n 0 k (by omega) (by omega) hk
theorem specNH_tells (c r : Int) (k : Nat) (hk : 20 ≤ k) : spec_NewHeap.f k c r = some (nhM c r) := by
  unfold spec_NewHeap.f
  obtain ⟨k, rfl⟩ : ∃ m, k = m + 1 := ⟨k - 1, by omega⟩
  have hj : spec_NewHeap.j0 (k + 1) c r true = some ([], [], [], false) := by rw [spec_NewHeap.j0, if_pos rfl]
  have hf : ¬ (1 ≤ c ∧ c ≤ 8 ∧ 1 ≤ r ∧ r ≤ 3) → nhM c r = ([], [], [], false) := fun h => by unfold nhM; rw [if_neg h]
  by_cases h1 : c < 1
  · rw [if_pos h1, hj, hf (by omega)]
  rw [if_neg h1]
  by_cases h2 : c > 8
  · rw [if_pos h2, hj, hf (by omega)]
  rw [if_neg h2]
  by_cases h3 : r < 1
  · rw [if_pos h3, hj, hf (by omega)]
  rw [if_neg h3]
  by_cases h4 : r > 3
  · rw [decide_eq_true h4, hj, hf (by omega)]
  obtain ⟨c, rfl⟩ : ∃ n : Nat, c = (n : Int) := ⟨c.toNat, by omega⟩
  obtain ⟨r, rfl⟩ : ∃ n : Nat, r = (n : Int) := ⟨r.toNat, by omega⟩
  rw [decide_eq_false h4, spec_NewHeap.j0, if_neg (by simp), many_tells c k (by omega) (by omega), many_tells r k (by omega) (by omega)]
  unfold nhM
  rw [if_pos (by omega)]
  rfl
def bytesOk (b : List Int) : Prop := ∀ x ∈ b, 0 ≤ x ∧ x ≤ 255
theorem tmod_nat (a b : Nat) : Int.tmod (a : Int) (b : Int) = ((a % b : Nat) : Int) := rfl
theorem tdiv_nat (a b : Nat) : Int.tdiv (a : Int) (b : Int) = ((a / b : Nat) : Int) := rfl
theorem xor_nat (a b : Nat) (ha : a < 4611686018427387904) (hb : b < 4611686018427387904) : Go.bits .xor .i64 (a : Int) (b : Int) = ((a ^^^ b : Nat) : Int) := by
  have hx : a ^^^ b < 2 ^ 62 := Nat.xor_lt_two_pow (by omega) (by omega)
  have h1 : (BitVec.ofInt 64 (a : Int)).toNat = a := by
    rw [BitVec.ofInt_natCast, BitVec.toNat_ofNat]; exact Nat.mod_eq_of_lt (by omega)
  have h2 : (BitVec.ofInt 64 (b : Int)).toNat = b := by
    rw [BitVec.ofInt_natCast, BitVec.toNat_ofNat]; exact Nat.mod_eq_of_lt (by omega)
  show IntKind.i64.wrap ((BitVec.ofInt 64 (a : Int) ^^^ BitVec.ofInt 64 (b : Int)).toNat : Int) = _
  rw [BitVec.toNat_xor, h1, h2, IntKind.wrap_i64]
  omega
theorem wn (n : Nat) (h : n ≤ 9223372036854775807) : wrap64 (n : Int) = (n : Int) := wrap_id (by omega) (by omega)
theorem byte_at {b : List Int} (hb : bytesOk b) (i : Nat) (h : i < b.length) : ∃ A : Nat, A ≤ 255 ∧ rd b (i : Int) = (A : Int) := by
  have := hb _ (rd_mem b (i : Int) (by omega) (by omega))
  exact ⟨(rd b (i : Int)).toNat, by omega, by omega⟩
theorem pick_tells {b : List Int} (hb : bytesOk b) (hl : b.length ≤ 2000) (p n k : Nat) (hp : p ≤ 100000) (h1 : 1 ≤ n) (hk : 1 ≤ k) : ∃ v : Nat, v < n ∧ spec_l13Rd_pick.f k b (p : Int) (n : Int) = some ((v : Int), ((p + 1 : Nat) : Int)) := by
  obtain ⟨k, rfl⟩ : ∃ m, k = m + 1 := ⟨k - 1, by omega⟩
  have w1 : wrap64 ((p : Int) + 1) = ((p + 1 : Nat) : Int) := by unfold wrap64; omega
  have w2 : wrap64 (((p + 1 : Nat) : Int) - 1) = (p : Int) := by unfold wrap64; omega
  unfold spec_l13Rd_pick.f
  rw [if_neg (by omega), w1, spec_l13Rd_pick.j0, w2]
  by_cases e : b.length = 0
  · refine ⟨0, by omega, ?_⟩
    rw [if_pos (by simp [e])]; rfl
  · have e' : ((b.length : Int) == 0) = false := beq_eq_false_iff_ne.mpr (by omega)
    rw [e', if_neg Bool.false_ne_true]
    by_cases c : (p : Int) < (b.length : Int)
    · obtain ⟨A, hA, eA⟩ := byte_at hb p (by omega)
      refine ⟨A % n, Nat.mod_lt _ (by omega), ?_⟩
      rw [if_pos c, if_pos (by omega), if_neg (by omega), eA, wn A (by omega), tmod_nat]
    · have i1 : p % b.length < b.length := Nat.mod_lt _ (by omega)
      have i2 : (p * 7 + 3) % b.length < b.length := Nat.mod_lt _ (by omega)
      obtain ⟨A, hA, eA⟩ := byte_at hb _ i1
      obtain ⟨B, hB, eB⟩ := byte_at hb _ i2
      have w3a : wrap64 ((p : Int) * 7) = ((p * 7 : Nat) : Int) := by rw [wrap_id (by omega) (by omega)]; omega
      have w3 : wrap64 (((p * 7 : Nat) : Int) + 3) = ((p * 7 + 3 : Nat) : Int) := by rw [wrap_id (by omega) (by omega)]; omega
      have q : p / b.length ≤ 100000 := Nat.le_trans (Nat.div_le_self _ _) hp
      obtain ⟨Q, hQ⟩ : ∃ Q, Q = p / b.length := ⟨_, rfl⟩
      rw [← hQ] at q
      have x1 : wrap64 ((A : Int) * 131) = ((A * 131 : Nat) : Int) := by rw [wrap_id (by omega) (by omega)]; omega
      have x2 : wrap64 ((B : Int) * 1117) = ((B * 1117 : Nat) : Int) := by rw [wrap_id (by omega) (by omega)]; omega
      have x3 : wrap64 ((p : Int) * 29) = ((p * 29 : Nat) : Int) := by rw [wrap_id (by omega) (by omega)]; omega
      have x4 : wrap64 ((Q : Int) * 53) = ((Q * 53 : Nat) : Int) := by rw [wrap_id (by omega) (by omega)]; omega
      have w4 : wrap64 (((A * 131 : Nat) : Int) + ((B * 1117 : Nat) : Int)) = ((A * 131 + B * 1117 : Nat) : Int) := by rw [wrap_id (by omega) (by omega)]; omega
      have w5 : wrap64 (((A * 131 + B * 1117 : Nat) : Int) + ((p * 29 : Nat) : Int)) = ((A * 131 + B * 1117 + p * 29 : Nat) : Int) := by rw [wrap_id (by omega) (by omega)]; omega
      have w6 : wrap64 (((A * 131 + B * 1117 + p * 29 : Nat) : Int) + ((Q * 53 : Nat) : Int)) = ((A * 131 + B * 1117 + p * 29 + Q * 53 : Nat) : Int) := by rw [wrap_id (by omega) (by omega)]; omega
      rw [if_neg c, if_neg (by omega), tmod_nat p b.length, w3a, w3, tmod_nat (p * 7 + 3) b.length, if_pos (by omega), if_pos (by omega), if_pos (by omega), if_pos (by omega), if_neg (by omega), eA, eB, tdiv_nat p b.length, ← hQ, wn A (by omega), wn B (by omega), wn Q (by omega), x1, x2, w4, x3, w5, x4, w6]
      have hX : A * 131 + B * 1117 + p * 29 + Q * 53 < 4611686018427387904 := by omega
      generalize A * 131 + B * 1117 + p * 29 + Q * 53 = X at hX
      have e64 : Int.tdiv (X : Int) 64 = ((X / 64 : Nat) : Int) := rfl
      rw [e64, wn (X / 64) (by omega), xor_nat X (X / 64) hX (by omega), tmod_nat]
      exact ⟨_, Nat.mod_lt _ (by omega), rfl⟩
theorem num_tells {b : List Int} (hb : bytesOk b) (hl : b.length ≤ 2000) (p k : Nat) (l : List Int) (hp : p ≤ 100000) (h1 : 1 ≤ l.length) (hk : 1 ≤ k) : ∃ v, v ∈ l ∧ spec_l13Rd_num.f k b (p : Int) l = some (v, ((p + 1 : Nat) : Int)) := by
  obtain ⟨v, hv, e⟩ := pick_tells hb hl p l.length k hp h1 hk
  refine ⟨rd l (v : Int), rd_mem l _ (by omega) (by omega), ?_⟩
  unfold spec_l13Rd_num.f
  rw [e]
  simp only [Option.bind_some]
  rw [if_pos (by omega), if_pos (by omega)]
theorem open_tells (b : List Int) : ∃ c, c.length ≤ 2000 ∧ (bytesOk b → bytesOk c) ∧ spec_l13Open.f b = some (c, ((0 : Nat) : Int)) := by
  unfold spec_l13Open.f
  by_cases h : (b.length : Int) > 2000
  · refine ⟨b.take 2000, by simp; omega, fun hb x hx => hb x (List.mem_of_mem_take hx), ?_⟩
    rw [if_pos h, if_pos (by omega)]; rfl
  · refine ⟨b, by omega, fun hb => hb, ?_⟩
    rw [if_neg h]; rfl
def okl (n : Nat) (l : List Int) : Prop := ∀ x ∈ l, -1 ≤ x ∧ x < (n : Int)
theorem okl_set {n : Nat} {l : List Int} (h : okl n l) (i : Nat) {v : Int} (hv : -1 ≤ v ∧ v < (n : Int)) : okl n (l.set i v) := by
  intro x hx
  rcases List.mem_or_eq_of_mem_set hx with hx | rfl
  · exact h x hx
  · exact hv
theorem wrap_p1 (n : Nat) (h : n ≤ 1000) : wrap64 ((n : Int) + 1) = ((n + 1 : Nat) : Int) := wrap_id (by omega) (by omega)
theorem wrap_p2 (n : Nat) (h : n ≤ 1000) : wrap64 ((n : Int) + 2) = ((n + 2 : Nat) : Int) := wrap_id (by omega) (by omega)
theorem wrap_m1 (n : Nat) (h : n ≤ 1000) : wrap64 ((n : Int) - 1) = (n : Int) - 1 := wrap_id (by omega) (by omega)
theorem wrap_m2 (n : Nat) (h : n ≤ 1000) : wrap64 ((n : Int) - 2) = (n : Int) - 2 := wrap_id (by omega) (by omega)
theorem drawl1_tells {b : List Int} (hb : bytesOk b) (hl : b.length ≤ 2000) (n : Nat) (h1 : 1 ≤ n) (hn : n ≤ 8) (x y : List Int) : ∀ (d i k p : Nat) (z : List Int), z.length ≤ 100 → i ≤ z.length → z.length - i = d → d + 2 ≤ k → p + d ≤ 90000 → okl n z →
    ∃ z' p', spec_l1Draw.l1 k (n : Int) (i : Int) b (p : Int) x y z = some (x, y, z', ((p' : Nat) : Int)) ∧ z'.length = z.length ∧ okl n z' ∧ p' ≤ p + d := by
  intro d
  induction d with
  | zero =>
    intro i k p z hz3 hi hd hk hp hz
    obtain ⟨k, rfl⟩ : ∃ m, k = m + 1 := ⟨k - 1, by omega⟩
    exact ⟨z, p, by rw [spec_l1Draw.l1, if_neg (by omega)], rfl, hz, by omega⟩
  | succ d ih =>
    intro i k p z hz3 hi hd hk hp hz
    obtain ⟨k, rfl⟩ : ∃ m, k = m + 1 := ⟨k - 1, by omega⟩
    obtain ⟨v, hv, e⟩ := pick_tells hb hl p (n + 1) k (by omega) (by omega) (by omega)
    obtain ⟨z', p', e2, l2, o2, q2⟩ := ih (i + 1) k (p + 1) (z.set i ((v : Int) - 1)) (by simp; omega) (by simp; omega) (by simp; omega) (by omega) (by omega) (okl_set hz i (by omega))
    refine ⟨z', p', ?_, by rw [l2]; simp, o2, by omega⟩
    rw [spec_l1Draw.l1, if_pos (by omega), wrap_p1 n (by omega), e]
    simp only [Option.bind_some]
    rw [if_pos (by omega), wrap_m1 v (by omega), wrap_succ (m := z.length) (by omega) (by omega), Int.toNat_natCast]
    exact e2
theorem drawl0_tells {b : List Int} (hb : bytesOk b) (hl : b.length ≤ 2000) (n : Nat) (h1 : 1 ≤ n) (hn : n ≤ 8) (z : List Int) (hzl : z.length ≤ 3) (hz : okl n z) : ∀ (d i k p : Nat) (x y : List Int), i ≤ n → n - i = d → d + 10 ≤ k → p + 2 * d ≤ 80000 → okl n x → okl n y → x.length = n → y.length = n →
    ∃ x' y' z' p', spec_l1Draw.l0 k (n : Int) (i : Int) b (p : Int) x y z = some (x', y', z', ((p' : Nat) : Int)) ∧ (x'.length = n ∧ y'.length = n ∧ z'.length = z.length) ∧ (okl n x' ∧ okl n y' ∧ okl n z') ∧ p' ≤ p + 2 * d + 3 := by
  intro d
  induction d with
  | zero =>
    intro i k p x y hi hd hk hp hx hy lx ly
    obtain ⟨k, rfl⟩ : ∃ m, k = m + 1 := ⟨k - 1, by omega⟩
    obtain ⟨z', p', e2, l2, o2, q2⟩ := drawl1_tells hb hl n h1 hn x y z.length 0 k p z (by omega) (by omega) (by omega) (by omega) (by omega) hz
    exact ⟨x, y, z', p', by rw [spec_l1Draw.l0, if_neg (by omega)]; exact e2, ⟨lx, ly, l2⟩, ⟨hx, hy, o2⟩, by omega⟩
  | succ d ih =>
    intro i k p x y hi hd hk hp hx hy lx ly
    obtain ⟨k, rfl⟩ : ∃ m, k = m + 1 := ⟨k - 1, by omega⟩
    obtain ⟨v, hv, e⟩ := pick_tells hb hl p (n + 2) k (by omega) (by omega) (by omega)
    obtain ⟨u, hu, f⟩ := pick_tells hb hl (p + 1) (n + 2) k (by omega) (by omega) (by omega)
    have r1 : rd (x.set i ((v : Int) - 1)) (i : Int) = (v : Int) - 1 := by
      have := rd_set_eq x (i : Int) ((v : Int) - 1) (by omega) (by omega)
      rwa [Int.toNat_natCast] at this
    have r2 : rd (y.set i ((u : Int) - 2)) (i : Int) = (u : Int) - 2 := by
      have := rd_set_eq y (i : Int) ((u : Int) - 2) (by omega) (by omega)
      rwa [Int.toNat_natCast] at this
    rw [spec_l1Draw.l0, if_pos (by omega), wrap_p2 n (by omega), e]
    simp only [Option.bind_some]
    rw [if_pos (by omega), if_pos (by omega), f]
    simp only [Option.bind_some]
    rw [if_pos (by omega), wrap_m1 v (by omega), wrap_m2 u (by omega), wrap_succ (m := n) (by omega) (by omega), Int.toNat_natCast]
    simp only [r1, r2]
    have go : ∀ (x2 y2 : List Int), okl n x2 → okl n y2 → x2.length = n → y2.length = n → ∃ x' y' z' p', spec_l1Draw.l0 k (n : Int) ((i + 1 : Nat) : Int) b ((p + 1 + 1 : Nat) : Int) x2 y2 z = some (x', y', z', ((p' : Nat) : Int)) ∧ (x'.length = n ∧ y'.length = n ∧ z'.length = z.length) ∧ (okl n x' ∧ okl n y' ∧ okl n z') ∧ p' ≤ p + 2 * (d + 1) + 3 := by
      intro x2 y2 a1 a2 a3 a4
      obtain ⟨x', y', z', p', g1, g2, g3, g4⟩ := ih (i + 1) k (p + 1 + 1) x2 y2 (by omega) (by omega) (by omega) (by omega) a1 a2 a3 a4
      exact ⟨x', y', z', p', g1, g2, g3, by omega⟩
    by_cases c1 : (v : Int) - 1 ≥ (n : Int)
    · have ox : okl n ((x.set i ((v : Int) - 1)).set i (-1)) := by rw [List.set_set]; exact okl_set hx i (by omega)
      rw [if_pos c1]
      by_cases c2 : (u : Int) - 2 < -1
      · have oy : okl n ((y.set i ((u : Int) - 2)).set i (-1)) := by rw [List.set_set]; exact okl_set hy i (by omega)
        rw [if_pos c2]
        exact go _ _ ox oy (by simp [lx]) (by simp [ly])
      · rw [if_neg c2]
        exact go _ _ ox (okl_set hy i (by omega)) (by simp [lx]) (by simp [ly])
    · rw [if_neg c1]
      by_cases c2 : (u : Int) - 2 < -1
      · have oy : okl n ((y.set i ((u : Int) - 2)).set i (-1)) := by rw [List.set_set]; exact okl_set hy i (by omega)
        rw [if_pos c2]
        exact go _ _ (okl_set hx i (by omega)) oy (by simp [lx]) (by simp [ly])
      · rw [if_neg c2]
        exact go _ _ (okl_set hx i (by omega)) (okl_set hy i (by omega)) (by simp [lx]) (by simp [ly])
theorem draw_tells {b : List Int} (hb : bytesOk b) (hl : b.length ≤ 2000) (p k : Nat) (hp : p ≤ 70000) (hk : 100 ≤ k) : ∃ x y z p', spec_l1Draw.f k b (p : Int) = some (x, y, z, ((p' : Nat) : Int)) ∧ hv x y z = true ∧ p' ≤ p + 30 := by
  obtain ⟨v, hv1, e1⟩ := num_tells hb hl p k [4, 3, 5, 6, 2, 8, 1] (by omega) (by simp) (by omega)
  obtain ⟨u, hu1, e2⟩ := num_tells hb hl (p + 1) k [2, 1, 3] (by omega) (by simp) (by omega)
  have bv : 1 ≤ v ∧ v ≤ 8 := by simp at hv1; omega
  have bu : 1 ≤ u ∧ u ≤ 3 := by simp at hu1; omega
  obtain ⟨n, rfl⟩ : ∃ n : Nat, v = (n : Int) := ⟨v.toNat, by omega⟩
  obtain ⟨m, rfl⟩ : ∃ n : Nat, u = (n : Int) := ⟨u.toNat, by omega⟩
  have hr : ∀ q : Nat, okl n (List.replicate q (-1)) := by
    intro q x hx
    rw [(List.mem_replicate.1 hx).2]; omega
  obtain ⟨x, y, z, p', f1, f2, f3, f4⟩ := drawl0_tells hb hl n (by omega) (by omega) (List.replicate m (-1)) (by simp; omega) (hr m) n 0 k (p + 1 + 1) (List.replicate n (-1)) (List.replicate n (-1)) (by omega) (by omega) (by omega) (by omega) (hr n) (hr n) (by simp) (by simp)
  refine ⟨x, y, z, p', ?_, ?_, by omega⟩
  · unfold spec_l1Draw.f
    rw [e1]
    simp only [Option.bind_some]
    rw [e2]
    simp only [Option.bind_some]
    rw [specNH_tells _ _ k (by omega)]
    simp only [Option.bind_some]
    unfold nhM
    rw [if_pos (by omega), Int.toNat_natCast, Int.toNat_natCast]
    exact f1
  · rw [List.length_replicate] at f2
    refine hv_iff.2 ⟨by omega, ?_, ?_, ?_⟩
    · intro w hw; have := f3.1 w hw; omega
    · intro w hw; have := f3.2.1 w hw; omega
    · intro w hw; have := f3.2.2 w hw; omega
theorem l1Copy_tells (a b c : List Int) (ha : a.length ≤ 1048576) (hb : b.length ≤ 1048576) (hc : c.length ≤ 1048576) : spec_l1Copy.f a b c = some (a, b, c) := by
  unfold spec_l1Copy.f
  simp only [Option.bind_some, List.length_nil, List.nil_append]
  rw [if_pos (by omega), if_pos (by omega), if_pos (by omega)]
def small3 (x y z : List Int) : Prop := x.length ≤ 20 ∧ y.length ≤ 20 ∧ z.length ≤ 20
theorem wrong_tells {b : List Int} (hb : bytesOk b) (hl : b.length ≤ 2000) (p k : Nat) (hp : p ≤ 70000) (hk : 100 ≤ k) (x y z : List Int) (h1 : 1 ≤ x.length) (hx : x.length ≤ 18) (hy : y.length ≤ 18) (hz : z.length ≤ 18) : ∃ x' y' z' p', spec_l1Wrong.f k b (p : Int) x y z = some (x', y', z', ((p' : Nat) : Int)) ∧ (x'.length = x.length ∧ y'.length ≤ y.length + 1 ∧ z'.length ≤ z.length + 1) ∧ p' ≤ p + 3 := by
  obtain ⟨v, hv, e⟩ := pick_tells hb hl p 20 k (by omega) (by omega) (by omega)
  obtain ⟨q, hq⟩ : ∃ q, k = q + 1 := ⟨k - 1, by omega⟩
  have hj : ∀ s0 s1 a b c, spec_l1Wrong.j0 k s0 s1 a b c = some (a, b, c, s1) := fun s0 s1 a b c => by rw [hq]; rfl
  have e' : spec_l13Rd_pick.f k b (p : Int) 20 = some ((v : Int), ((p + 1 : Nat) : Int)) := e
  unfold spec_l1Wrong.f
  rw [l1Copy_tells x y z (by omega) (by omega) (by omega)]
  simp only [Option.bind_some]
  rw [e']
  simp only [Option.bind_some]
  by_cases c0 : (v : Int) = 0
  · obtain ⟨u, hu, f⟩ := pick_tells hb hl (p + 1) x.length k (by omega) h1 (by omega)
    obtain ⟨t, ht, g⟩ := num_tells hb hl (p + 1 + 1) k [-2, 8, 0] (by omega) (by simp) (by omega)
    refine ⟨x.set u t, y, z, p + 1 + 1 + 1, ?_, ⟨?_, ?_, ?_⟩, by omega⟩
    · rw [if_pos c0, f]
      simp only [Option.bind_some]
      rw [g]
      simp only [Option.bind_some]
      rw [if_pos (by omega), if_pos (by omega), Int.toNat_natCast, hj]
    · simp
    · omega
    · omega
  · rw [if_neg c0]
    by_cases c1 : (v : Int) = 1
    · rw [if_pos c1, if_pos (by omega), hj]
      exact ⟨_, _, _, p + 1, rfl, ⟨rfl, by simp, by omega⟩, by omega⟩
    · rw [if_neg c1]
      by_cases c2 : (v : Int) = 2
      · obtain ⟨t, ht, g⟩ := num_tells hb hl (p + 1) k [0, -1, 9] (by omega) (by simp) (by omega)
        rw [if_pos c2, g]
        simp only [Option.bind_some]
        rw [if_pos (by omega), hj]
        exact ⟨_, _, _, p + 1 + 1, rfl, ⟨rfl, by omega, by simp⟩, by omega⟩
      · rw [if_neg c2]
        by_cases c3 : (v : Int) = 3
        · rw [if_pos c3, hj]
          exact ⟨_, _, _, p + 1, rfl, ⟨rfl, by omega, by simp⟩, by omega⟩
        · rw [if_neg c3, hj]
          exact ⟨_, _, _, p + 1, rfl, ⟨rfl, by omega, by omega⟩, by omega⟩
theorem drawHeapValid_tells {code : List Int} (hb0 : bytesOk code) (k : Nat) (hk : 100 ≤ k) : ∃ x y z, spec_DrawHeapValid.f k code = some (x, y, z) ∧ small3 x y z := by
  obtain ⟨b, hl, hb1, e0⟩ := open_tells code
  have hb := hb1 hb0
  obtain ⟨x, y, z, p, e1, h1, q1⟩ := draw_tells hb hl 0 k (by omega) hk
  have hv1 := hv_len h1
  obtain ⟨x', y', z', p', e2, l2, q2⟩ := wrong_tells hb hl p k (by omega) hk x y z (by omega) (by omega) (by omega) (by omega)
  refine ⟨x', y', z', ?_, by unfold small3; omega⟩
  unfold spec_DrawHeapValid.f
  rw [e0]
  simp only [Option.bind_some]
  rw [e1]
  simp only [Option.bind_some]
  rw [e2]
  rfl
theorem l1Points_tells (x : Int) (n : Nat) : spec_l1Points.f x (n : Int) = some (okp n x) := by
  unfold spec_l1Points.f okp
  by_cases h : x ≥ -1
  · rw [if_pos h]; congr 1; simp; omega
  · rw [if_neg h]; congr 1; exact (decide_eq_false (fun h2 => h h2.1)).symm
theorem specHV_l1 (a b c : List Int) (n : Nat) (hl : c.length ≤ 3) : ∀ (d i k : Nat), i ≤ c.length → c.length - i = d → d < k →
    spec_HeapValid.l1 k (n : Int) (i : Int) a b c = some ((c.drop i).all (okp n)) := by
  intro d
  induction d with
  | zero =>
    intro i k hi hd hk
    obtain ⟨k, rfl⟩ : ∃ m, k = m + 1 := ⟨k - 1, by omega⟩
    rw [spec_HeapValid.l1, if_neg (by omega), all_drop_nil _ _ _ (by omega)]
  | succ d ih =>
    intro i k hi hd hk
    obtain ⟨k, rfl⟩ : ∃ m, k = m + 1 := ⟨k - 1, by omega⟩
    have hlt : i < c.length := by omega
    rw [spec_HeapValid.l1, if_pos (by omega), if_pos (by omega), l1Points_tells, all_drop_cons _ _ _ hlt, wrap_succ hlt (by omega)]
    simp only [Option.bind_some]
    cases h : okp n (rd c (i : Int)) with
    | true => rw [if_pos rfl, ih (i + 1) k (by omega) (by omega) (by omega), Bool.true_and]
    | false => rw [if_neg (by simp), Bool.false_and]
theorem specHV_l0 (a b c : List Int) (hl : c.length ≤ 3) (ha : a.length ≤ 8) (hb : b.length = a.length) : ∀ (d i k : Nat), i ≤ a.length → a.length - i = d → d + 5 < k →
    spec_HeapValid.l0 k (a.length : Int) (i : Int) a b c = some ((a.drop i).all (okp a.length) && ((b.drop i).all (okp a.length) && c.all (okp a.length))) := by
  intro d
  induction d with
  | zero =>
    intro i k hi hd hk
    obtain ⟨k, rfl⟩ : ∃ m, k = m + 1 := ⟨k - 1, by omega⟩
    rw [spec_HeapValid.l0, if_neg (by omega), all_drop_nil _ _ _ (by omega), all_drop_nil _ _ _ (by omega)]
    have := specHV_l1 a b c a.length hl c.length 0 k (by omega) (by omega) (by omega)
    simp only [List.drop_zero] at this
    rw [Bool.true_and, Bool.true_and]
    exact this
  | succ d ih =>
    intro i k hi hd hk
    obtain ⟨k, rfl⟩ : ∃ m, k = m + 1 := ⟨k - 1, by omega⟩
    have hlt : i < a.length := by omega
    have hlt2 : i < b.length := by omega
    rw [spec_HeapValid.l0, if_pos (by omega), if_pos (by omega), if_pos (by omega), l1Points_tells, all_drop_cons _ a _ hlt, all_drop_cons _ b _ hlt2]
    simp only [Option.bind_some]
    cases h : okp a.length (rd a (i : Int)) with
    | false => rw [if_neg (by simp), Bool.false_and, Bool.false_and]
    | true =>
      rw [if_pos rfl, if_pos (by omega), l1Points_tells, wrap_succ hlt (by omega)]
      simp only [Option.bind_some]
      cases h2 : okp a.length (rd b (i : Int)) with
      | false => rw [if_neg (by simp), Bool.false_and, Bool.false_and, Bool.and_false]
      | true => rw [if_pos rfl, ih (i + 1) k (by omega) (by omega) (by omega), Bool.true_and, Bool.true_and]
theorem hv_false {a b c : List Int} (h : ¬ (a.length = b.length ∧ 1 ≤ a.length ∧ a.length ≤ 8 ∧ 1 ≤ c.length ∧ c.length ≤ 3)) : hv a b c = false := by
  unfold hv; rw [decide_eq_false h, Bool.false_and]
theorem specHV_tells (a b c : List Int) (k : Nat) (hk : 40 ≤ k) : spec_HeapValid.f k a b c = some (hv a b c) := by
  unfold spec_HeapValid.f
  obtain ⟨k, rfl⟩ : ∃ m, k = m + 1 := ⟨k - 1, by omega⟩
  have hj : ∀ n : Int, spec_HeapValid.j0 (k + 1) n true a b c = some false := fun n => by rw [spec_HeapValid.j0, if_pos rfl]
  by_cases h1 : (a.length : Int) < 1
  · rw [if_pos h1, hj, hv_false (by omega)]
  rw [if_neg h1]
  by_cases h2 : (a.length : Int) > 8
  · rw [if_pos h2, hj, hv_false (by omega)]
  rw [if_neg h2]
  by_cases h3 : (b.length : Int) = (a.length : Int)
  · rw [if_pos h3]
    by_cases h4 : (c.length : Int) < 1
    · rw [if_pos h4, hj, hv_false (by omega)]
    rw [if_neg h4]
    by_cases h5 : (c.length : Int) > 3
    · rw [decide_eq_true h5, hj, hv_false (by omega)]
    rw [decide_eq_false h5, spec_HeapValid.j0, if_neg (by simp)]
    have := specHV_l0 a b c (by omega) (by omega) (by omega) a.length 0 k (by omega) (by omega) (by omega)
    simp only [List.drop_zero] at this
    refine this.trans ?_
    unfold hv
    rw [decide_eq_true (show a.length = b.length ∧ 1 ≤ a.length ∧ a.length ≤ 8 ∧ 1 ≤ c.length ∧ c.length ≤ 3 by omega), Bool.true_and]
  · rw [if_neg h3, hj, hv_false (by omega)]
theorem implHV_l1 (y : List (List Int)) (xs a b c : List Int) (i : Int) (h0 : -9223372036854775808 ≤ i) (h9 : i ≤ 9223372036854775806) (hl : xs.length ≤ 9223372036854775807) : ∀ (d j m : Nat), j ≤ xs.length → xs.length - j = d →
    impl_HeapValid.l1 (m + d + 1) y 3 i xs (xs.length : Int) (j : Int) a b c = if (xs.drop j).all (okp a.length) = true then impl_HeapValid.l0 m y 3 (i + 1) a b c else some false := by
  intro d
  induction d with
  | zero =>
    intro j m hj hd
    rw [impl_HeapValid.l1, if_neg (by omega), all_drop_nil _ _ _ (by omega), if_pos rfl, wrap_id (by omega) (by omega)]
  | succ d ih =>
    intro j m hj hd
    have hlt : j < xs.length := by omega
    rw [impl_HeapValid.l1, if_pos (by omega), if_pos (by omega), if_pos (by omega), all_drop_cons _ xs _ hlt, wrap_succ hlt hl]
    by_cases h1 : rd xs (j : Int) < -1
    · have : okp a.length (rd xs (j : Int)) = false := by unfold okp; exact decide_eq_false (by omega)
      rw [if_pos h1, this, Bool.false_and, if_neg (by simp)]
    · rw [if_neg h1]
      by_cases h2 : rd xs (j : Int) ≥ (a.length : Int)
      · have : okp a.length (rd xs (j : Int)) = false := by unfold okp; exact decide_eq_false (by omega)
        rw [if_pos h2, this, Bool.false_and, if_neg (by simp)]
      · have : okp a.length (rd xs (j : Int)) = true := by unfold okp; exact decide_eq_true (by omega)
        rw [if_neg h2, this, Bool.true_and]
        exact ih (j + 1) m (by omega) (by omega)
theorem implHV_l0 (a b c : List Int) (m : Nat) (hb : b.length ≤ 8) (ha : a.length ≤ 8) (hc : c.length ≤ 8) :
    impl_HeapValid.l0 (m + 1 + (c.length + 1) + 1 + (b.length + 1) + 1 + (a.length + 1) + 1) [a, b, c] 3 0 a b c = some (a.all (okp a.length) && (b.all (okp a.length) && c.all (okp a.length))) := by
  have e0 : rd_L1 [a, b, c] 0 = a := rfl
  have e1 : rd_L1 [a, b, c] 1 = b := rfl
  have e2 : rd_L1 [a, b, c] 2 = c := rfl
  rw [impl_HeapValid.l0, if_pos (by omega), if_pos (by omega), if_pos (by simp), e0]
  have s0 := implHV_l1 [a, b, c] a a b c 0 (by omega) (by omega) (by omega) a.length 0 (m + 1 + (c.length + 1) + 1 + (b.length + 1) + 1) (by omega) (by omega)
  simp only [List.drop_zero] at s0
  refine Eq.trans s0 ?_
  cases hA : a.all (okp a.length) with
  | false => rfl
  | true =>
    rw [if_pos rfl, Bool.true_and]
    rw [impl_HeapValid.l0, if_pos (by omega), if_pos (by omega), if_pos (by simp), show (0 : Int) + 1 = 1 from rfl, e1]
    have s1 := implHV_l1 [a, b, c] b a b c 1 (by omega) (by omega) (by omega) b.length 0 (m + 1 + (c.length + 1) + 1) (by omega) (by omega)
    simp only [List.drop_zero] at s1
    refine Eq.trans s1 ?_
    cases hB : b.all (okp a.length) with
    | false => rfl
    | true =>
      rw [if_pos rfl, Bool.true_and]
      rw [impl_HeapValid.l0, if_pos (by omega), if_pos (by omega), if_pos (by simp), show (1 : Int) + 1 = 2 from rfl, e2]
      have s2 := implHV_l1 [a, b, c] c a b c 2 (by omega) (by omega) (by omega) c.length 0 (m + 1) (by omega) (by omega)
      simp only [List.drop_zero] at s2
      refine Eq.trans s2 ?_
      cases hC : c.all (okp a.length) with
      | false => rfl
      | true => rw [if_pos rfl, impl_HeapValid.l0, if_neg (by omega)]
theorem implHV_tells (a b c : List Int) (k : Nat) (hk : 60 ≤ k) : impl_HeapValid.f k a b c = some (hv a b c) := by
  unfold impl_HeapValid.f
  obtain ⟨k, rfl⟩ : ∃ m, k = m + 1 := ⟨k - 1, by omega⟩
  have hj : impl_HeapValid.j0 (k + 1) true a b c = some false := by rw [impl_HeapValid.j0, if_pos rfl]
  by_cases h1 : (a.length : Int) = (b.length : Int)
  · rw [if_pos h1]
    by_cases h2 : (a.length : Int) < 1
    · rw [if_pos h2, hj, hv_false (by omega)]
    rw [if_neg h2]
    by_cases h3 : (a.length : Int) > 8
    · rw [if_pos h3, hj, hv_false (by omega)]
    rw [if_neg h3]
    by_cases h4 : (c.length : Int) < 1
    · rw [if_pos h4, hj, hv_false (by omega)]
    rw [if_neg h4]
    by_cases h5 : (c.length : Int) > 3
    · rw [decide_eq_true h5, hj, hv_false (by omega)]
    rw [decide_eq_false h5, impl_HeapValid.j0, if_neg (by simp)]
    simp only [Option.bind_some]
    obtain ⟨m, hm⟩ : ∃ m, k = m + 1 + (c.length + 1) + 1 + (b.length + 1) + 1 + (a.length + 1) + 1 := ⟨k - 1 - (c.length + 1) - 1 - (b.length + 1) - 1 - (a.length + 1) - 1, by omega⟩
    have := implHV_l0 a b c m (by omega) (by omega) (by omega)
    rw [← hm] at this
    refine Eq.trans this ?_
    unfold hv
    rw [decide_eq_true (show a.length = b.length ∧ 1 ≤ a.length ∧ a.length ≤ 8 ∧ 1 ≤ c.length ∧ c.length ≤ 3 by omega), Bool.true_and]
  · rw [if_neg h1, hj, hv_false (by omega)]
theorem hv_beyond {a b c : List Int} (h : 1 ≤ a.length) : hv ([(a.length : Int)] ++ a.drop 1) b c = false := by
  refine Bool.eq_false_iff.2 fun g => ?_
  have hi := (hv_iff.1 g).2.1 (a.length : Int) (by simp)
  have hl : ([(a.length : Int)] ++ a.drop 1).length = a.length := by simp; omega
  rw [hl] at hi
  omega
theorem hv_rootless {a b : List Int} : hv a b [] = false := by
  refine Bool.eq_false_iff.2 fun g => ?_
  have := (hv_iff.1 g).1.2.2.2.1
  simp at this
theorem pure_FnHeapValid (code : List Int) (_hl : code.length ≤ 9223372036854775807) (hb : ∀ x ∈ code, 0 ≤ x ∧ x ≤ 255) : ∃ k, laws_FnHeapValid.f k code = some true := by
  refine ⟨1048600, ?_⟩
  obtain ⟨k, hk⟩ : ∃ k : Nat, k = 1048599 := ⟨_, rfl⟩
  rw [show 1048600 = k + 1 from by omega]
  unfold laws_FnHeapValid.f
  by_cases h0 : (code.length : Int) > 1048576
  · rw [if_pos h0]
  rw [if_neg h0]
  obtain ⟨a, b, c, e, hs⟩ := drawHeapValid_tells (code := code) hb (k + 1) (by omega)
  rw [e]
  simp only [Option.bind_some]
  rw [implHV_tells a b c _ (by omega), specHV_tells a b c _ (by omega)]
  simp only [Option.bind_some]
  rw [if_neg (by simp), laws_FnHeapValid.j0]
  by_cases h : hv a b c = true
  · have hl := hv_len h
    rw [h, if_neg (by simp)]
    simp only [Option.bind_some]
    rw [if_pos (by omega), if_pos (by simp; omega), implHV_tells _ _ _ _ (by omega), hv_beyond (by omega)]
    simp only [Option.bind_some]
    rw [if_neg Bool.false_ne_true, implHV_tells _ _ _ _ (by omega), hv_rootless]
    rfl
  · rw [Bool.eq_false_iff.2 h, if_pos (by simp), specHV_tells a b c _ (by omega), Bool.eq_false_iff.2 h]
    simp
end Go.Proofs.Ytkbaggfkidalfaa.A
