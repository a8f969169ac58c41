/- Plain laws on lists and numbers, for FnHeapText. No conditions beyond those stated. -/
import Derived.Test.YtomeaapjjmaepaaDoorCLawsFnHeapText
import Derived.Test.YtomeaapjjmaepaaDoorASpecDrawFormatHeap
import Derived.Test.YtomeaapjjmaepaaDoorASpecDrawHeapValid
import Derived.Test.YtomeaapjjmaepaaDoorASpecL1Draw
import Derived.Test.YtomeaapjjmaepaaDoorPBase
import Derived.Test.YtomeaapjjmaepaaDoorA0
import Derived.Test.YtomeaapjjmaepaaDoorASpecL1Many
import Derived.Test.YtomeaapjjmaepaaDoorASpecNewHeap
import Derived.Test.YtomeaapjjmaepaaDoorASpecL13Open
import Derived.Test.YtomeaapjjmaepaaDoorASpecL13RdNum
import Derived.Test.YtomeaapjjmaepaaDoorASpecL13RdPick
import Derived.Test.YtomeaapjjmaepaaDoorASpecL1Wrong
import Derived.Test.YtomeaapjjmaepaaDoorASpecL1Copy
import Derived.Test.YtomeaapjjmaepaaDoorASpecDrawParseHeap
import Derived.Test.YtomeaapjjmaepaaDoorASpecL13RdOf
import Derived.Test.YtomeaapjjmaepaaDoorASpecFormatHeap
import Derived.Test.YtomeaapjjmaepaaDoorASpecL13Dec
import Derived.Test.YtomeaapjjmaepaaDoorASpecL1Sign
import Derived.Test.YtomeaapjjmaepaaDoorASpecHeapValid
import Derived.Test.YtomeaapjjmaepaaDoorASpecL1Points
import Derived.Test.YtomeaapjjmaepaaDoorAImplDigit
import Derived.Test.YtomeaapjjmaepaaDoorAImplFormatHeap
import Derived.Test.YtomeaapjjmaepaaDoorAImplHeapValid
import Derived.Test.YtomeaapjjmaepaaDoorAImplParseHeap
import Derived.Test.YtomeaapjjmaepaaDoorASpecParseHeap
import Derived.Test.YtomeaapjjmaepaaDoorAImplParseHeap1
import Derived.Test.YtomeaapjjmaepaaDoorAStringsSplit
import Derived.Test.YtomeaapjjmaepaaDoorASpecL1Read
import Derived.Test.YtomeaapjjmaepaaDoorASpecL13Cut
import Derived.Test.YtomeaapjjmaepaaDoorAImplHeapSame
import Derived.Test.YtomeaapjjmaepaaDoorASlicesEqualIntInt
namespace Go.Proofs.YtomeaapjjmaepaaDoor.A
open Go.RowKit Go.Proofs.YtomeaapjjmaepaaDoorW.PrintWords Go.Proofs.YtomeaapjjmaepaaDoorW.PrintLast Go.Proofs.YtomeaapjjmaepaaDoorW.PrintMore
attribute [local go_sem] max2_int min2_int max_two min_two max_three min_three max_four min_four   -- for this text's walks alone
set_option linter.unusedVariables false
set_option linter.unusedSimpArgs false
/-- A pointer of a heap of n cells. -/
def okp (n : Nat) (x : Int) : Bool := decide (-1 ≤ x ∧ x < (n : Int))
def hv (a b c : List Int) : Bool := decide (a.length = b.length ∧ 1 ≤ a.length ∧ a.length ≤ 8 ∧ 1 ≤ c.length ∧ c.length ≤ 3) && (a.all (okp a.length) && (b.all (okp a.length) && c.all (okp a.length)))
theorem hv_len {a b c : List Int} (h : hv a b c = true) : a.length = b.length ∧ 1 ≤ a.length ∧ a.length ≤ 8 ∧ 1 ≤ c.length ∧ c.length ≤ 3 := by
  unfold hv at h
  rw [Bool.and_eq_true] at h
  exact of_decide_eq_true h.1
theorem okp_iff {n : Nat} {x : Int} : okp n x = true ↔ -1 ≤ x ∧ x < (n : Int) := by unfold okp; exact decide_eq_true_iff
theorem hv_iff {a b c : List Int} : hv a b c = true ↔ (a.length = b.length ∧ 1 ≤ a.length ∧ a.length ≤ 8 ∧ 1 ≤ c.length ∧ c.length ≤ 3) ∧ (∀ x ∈ a, -1 ≤ x ∧ x < (a.length : Int)) ∧ (∀ x ∈ b, -1 ≤ x ∧ x < (a.length : Int)) ∧ (∀ x ∈ c, -1 ≤ x ∧ x < (a.length : Int)) := by
  unfold hv
  simp only [Bool.and_eq_true, decide_eq_true_eq, List.all_eq_true, okp_iff]
theorem all_drop_cons (p : Int → Bool) (l : List Int) (n : Nat) (h : n < l.length) : (l.drop n).all p = (p (rd l (n : Int)) && (l.drop (n + 1)).all p) := by
  rw [drop_rd l n h, List.all_cons]
theorem all_drop_nil (p : Int → Bool) (l : List Int) (n : Nat) (h : l.length ≤ n) : (l.drop n).all p = true := by
  rw [List.drop_eq_nil_of_le h, List.all_nil]
def nhM (c r : Int) : List Int × List Int × List Int × Bool := if 1 ≤ c ∧ c ≤ 8 ∧ 1 ≤ r ∧ r ≤ 3 then (List.replicate c.toNat (-1), List.replicate c.toNat (-1), List.replicate r.toNat (-1), true) else ([], [], [], false)
theorem many_l0 (n : Nat) (hn : n ≤ 1000) : ∀ (d i k : Nat), i ≤ n → n - i = d → d < k → spec_l1Many.l0 k (n : Int) (List.replicate i (-1)) (i : Int) = some (List.replicate n (-1)) := by
  intro d
  induction d with
  | zero =>
    intro i k hi hd hk
    obtain ⟨k, rfl⟩ : ∃ m, k = m + 1 := ⟨k - 1, by omega⟩
    obtain rfl : i = n := by omega
    rw [spec_l1Many.l0, if_neg (by omega)]
  | succ d ih =>
    intro i k hi hd hk
    obtain ⟨k, rfl⟩ : ∃ m, k = m + 1 := ⟨k - 1, by omega⟩
    rw [spec_l1Many.l0, if_pos (by omega), if_pos (by simp; omega), wrap_succ (m := n) (by omega) (by omega), ← List.replicate_succ']
    exact ih (i + 1) k (by omega) (by omega) (by omega)
theorem many_tells (n k : Nat) (hn : n ≤ 1000) (hk : n < k) : spec_l1Many.f k (n : Int) = some (List.replicate n (-1)) := by
  unfold spec_l1Many.f
  exact many_l0 n hn n 0 k (by omega) (by omega) hk
theorem specNH_tells (c r : Int) (k : Nat) (hk : 20 ≤ k) : spec_NewHeap.f k c r = some (nhM c r) := by
  unfold spec_NewHeap.f
  obtain ⟨k, rfl⟩ : ∃ m, k = m + 1 := ⟨k - 1, by omega⟩
  have hj : spec_NewHeap.j0 (k + 1) c r true = some ([], [], [], false) := by rw [spec_NewHeap.j0, if_pos rfl]
  have hf : ¬ (1 ≤ c ∧ c ≤ 8 ∧ 1 ≤ r ∧ r ≤ 3) → nhM c r = ([], [], [], false) := fun h => by unfold nhM; rw [if_neg h]
  by_cases h1 : c < 1
  · rw [if_pos h1, hj, hf (by omega)]
  rw [if_neg h1]
  by_cases h2 : c > 8
  · rw [if_pos h2, hj, hf (by omega)]
  rw [if_neg h2]
  by_cases h3 : r < 1
  · rw [if_pos h3, hj, hf (by omega)]
  rw [if_neg h3]
  by_cases h4 : r > 3
  · rw [decide_eq_true h4, hj, hf (by omega)]
  obtain ⟨c, rfl⟩ : ∃ n : Nat, c = (n : Int) := ⟨c.toNat, by omega⟩
  obtain ⟨r, rfl⟩ : ∃ n : Nat, r = (n : Int) := ⟨r.toNat, by omega⟩
  rw [decide_eq_false h4, spec_NewHeap.j0, if_neg (by simp), many_tells c k (by omega) (by omega), many_tells r k (by omega) (by omega)]
  unfold nhM
  rw [if_pos (by omega)]
  rfl
def bytesOk (b : List Int) : Prop := ∀ x ∈ b, 0 ≤ x ∧ x ≤ 255
theorem tmod_nat (a b : Nat) : Int.tmod (a : Int) (b : Int) = ((a % b : Nat) : Int) := rfl
theorem tdiv_nat (a b : Nat) : Int.tdiv (a : Int) (b : Int) = ((a / b : Nat) : Int) := rfl
theorem xor_nat (a b : Nat) (ha : a < 4611686018427387904) (hb : b < 4611686018427387904) : Go.bits .xor .i64 (a : Int) (b : Int) = ((a ^^^ b : Nat) : Int) := by
  have hx : a ^^^ b < 2 ^ 62 := Nat.xor_lt_two_pow (by omega) (by omega)
  have h1 : (BitVec.ofInt 64 (a : Int)).toNat = a := by
    rw [BitVec.ofInt_natCast, BitVec.toNat_ofNat]; exact Nat.mod_eq_of_lt (by omega)
  have h2 : (BitVec.ofInt 64 (b : Int)).toNat = b := by
    rw [BitVec.ofInt_natCast, BitVec.toNat_ofNat]; exact Nat.mod_eq_of_lt (by omega)
  show IntKind.i64.wrap ((BitVec.ofInt 64 (a : Int) ^^^ BitVec.ofInt 64 (b : Int)).toNat : Int) = _
  rw [BitVec.toNat_xor, h1, h2, IntKind.wrap_i64]
  omega
theorem wn (n : Nat) (h : n ≤ 9223372036854775807) : wrap64 (n : Int) = (n : Int) := wrap_id (by omega) (by omega)
theorem byte_at {b : List Int} (hb : bytesOk b) (i : Nat) (h : i < b.length) : ∃ A : Nat, A ≤ 255 ∧ rd b (i : Int) = (A : Int) := by
  have := hb _ (rd_mem b (i : Int) (by omega) (by omega))
  exact ⟨(rd b (i : Int)).toNat, by omega, by omega⟩
theorem pick_tells {b : List Int} (hb : bytesOk b) (hl : b.length ≤ 2000) (p n k : Nat) (hp : p ≤ 100000) (h1 : 1 ≤ n) (hk : 1 ≤ k) : ∃ v : Nat, v < n ∧ spec_l13Rd_pick.f k b (p : Int) (n : Int) = some ((v : Int), ((p + 1 : Nat) : Int)) := by
  obtain ⟨k, rfl⟩ : ∃ m, k = m + 1 := ⟨k - 1, by omega⟩
  have w1 : wrap64 ((p : Int) + 1) = ((p + 1 : Nat) : Int) := by unfold wrap64; omega
  have w2 : wrap64 (((p + 1 : Nat) : Int) - 1) = (p : Int) := by unfold wrap64; omega
  unfold spec_l13Rd_pick.f
  rw [if_neg (by omega), w1, spec_l13Rd_pick.j0, w2]
  by_cases e : b.length = 0
  · refine ⟨0, by omega, ?_⟩
    rw [if_pos (by simp [e])]; rfl
  · have e' : ((b.length : Int) == 0) = false := beq_eq_false_iff_ne.mpr (by omega)
    rw [e', if_neg Bool.false_ne_true]
    by_cases c : (p : Int) < (b.length : Int)
    · obtain ⟨A, hA, eA⟩ := byte_at hb p (by omega)
      refine ⟨A % n, Nat.mod_lt _ (by omega), ?_⟩
      rw [if_pos c, if_pos (by omega), if_neg (by omega), eA, wn A (by omega), tmod_nat]
    · have i1 : p % b.length < b.length := Nat.mod_lt _ (by omega)
      have i2 : (p * 7 + 3) % b.length < b.length := Nat.mod_lt _ (by omega)
      obtain ⟨A, hA, eA⟩ := byte_at hb _ i1
      obtain ⟨B, hB, eB⟩ := byte_at hb _ i2
      have w3a : wrap64 ((p : Int) * 7) = ((p * 7 : Nat) : Int) := by rw [wrap_id (by omega) (by omega)]; omega
      have w3 : wrap64 (((p * 7 : Nat) : Int) + 3) = ((p * 7 + 3 : Nat) : Int) := by rw [wrap_id (by omega) (by omega)]; omega
      have q : p / b.length ≤ 100000 := Nat.le_trans (Nat.div_le_self _ _) hp
      obtain ⟨Q, hQ⟩ : ∃ Q, Q = p / b.length := ⟨_, rfl⟩
      rw [← hQ] at q
      have x1 : wrap64 ((A : Int) * 131) = ((A * 131 : Nat) : Int) := by rw [wrap_id (by omega) (by omega)]; omega
      have x2 : wrap64 ((B : Int) * 1117) = ((B * 1117 : Nat) : Int) := by rw [wrap_id (by omega) (by omega)]; omega
      have x3 : wrap64 ((p : Int) * 29) = ((p * 29 : Nat) : Int) := by rw [wrap_id (by omega) (by omega)]; omega
      have x4 : wrap64 ((Q : Int) * 53) = ((Q * 53 : Nat) : Int) := by rw [wrap_id (by omega) (by omega)]; omega
      have w4 : wrap64 (((A * 131 : Nat) : Int) + ((B * 1117 : Nat) : Int)) = ((A * 131 + B * 1117 : Nat) : Int) := by rw [wrap_id (by omega) (by omega)]; omega
      have w5 : wrap64 (((A * 131 + B * 1117 : Nat) : Int) + ((p * 29 : Nat) : Int)) = ((A * 131 + B * 1117 + p * 29 : Nat) : Int) := by rw [wrap_id (by omega) (by omega)]; omega
      have w6 : wrap64 (((A * 131 + B * 1117 + p * 29 : Nat) : Int) + ((Q * 53 : Nat) : Int)) = ((A * 131 + B * 1117 + p * 29 + Q * 53 : Nat) : Int) := by rw [wrap_id (by omega) (by omega)]; omega
      rw [if_neg c, if_neg (by omega), tmod_nat p b.length, w3a, w3, tmod_nat (p * 7 + 3) b.length, if_pos (by omega), if_pos (by omega), if_pos (by omega), if_pos (by omega), if_neg (by omega), eA, eB, tdiv_nat p b.length, ← hQ, wn A (by omega), wn B (by omega), wn Q (by omega), x1, x2, w4, x3, w5, x4, w6]
      have hX : A * 131 + B * 1117 + p * 29 + Q * 53 < 4611686018427387904 := by omega
      generalize A * 131 + B * 1117 + p * 29 + Q * 53 = X at hX
      have e64 : Int.tdiv (X : Int) 64 = ((X / 64 : Nat) : Int) := rfl
      rw [e64, wn (X / 64) (by omega), xor_nat X (X / 64) hX (by omega), tmod_nat]
      exact ⟨_, Nat.mod_lt _ (by omega), rfl⟩
theorem num_tells {b : List Int} (hb : bytesOk b) (hl : b.length ≤ 2000) (p k : Nat) (l : List Int) (hp : p ≤ 100000) (h1 : 1 ≤ l.length) (hk : 1 ≤ k) : ∃ v, v ∈ l ∧ spec_l13Rd_num.f k b (p : Int) l = some (v, ((p + 1 : Nat) : Int)) := by
  obtain ⟨v, hv, e⟩ := pick_tells hb hl p l.length k hp h1 hk
  refine ⟨rd l (v : Int), rd_mem l _ (by omega) (by omega), ?_⟩
  unfold spec_l13Rd_num.f
  rw [e]
  simp only [Option.bind_some]
  rw [if_pos (by omega), if_pos (by omega)]
theorem open_tells (b : List Int) : ∃ c, c.length ≤ 2000 ∧ (bytesOk b → bytesOk c) ∧ spec_l13Open.f b = some (c, ((0 : Nat) : Int)) := by
  unfold spec_l13Open.f
  by_cases h : (b.length : Int) > 2000
  · refine ⟨b.take 2000, by simp; omega, fun hb x hx => hb x (List.mem_of_mem_take hx), ?_⟩
    rw [if_pos h, if_pos (by omega)]; rfl
  · refine ⟨b, by omega, fun hb => hb, ?_⟩
    rw [if_neg h]; rfl
def okl (n : Nat) (l : List Int) : Prop := ∀ x ∈ l, -1 ≤ x ∧ x < (n : Int)
theorem okl_set {n : Nat} {l : List Int} (h : okl n l) (i : Nat) {v : Int} (hv : -1 ≤ v ∧ v < (n : Int)) : okl n (l.set i v) := by
  intro x hx
  rcases List.mem_or_eq_of_mem_set hx with hx | rfl
  · exact h x hx
  · exact hv
theorem wrap_p1 (n : Nat) (h : n ≤ 1000) : wrap64 ((n : Int) + 1) = ((n + 1 : Nat) : Int) := wrap_id (by omega) (by omega)
theorem wrap_p2 (n : Nat) (h : n ≤ 1000) : wrap64 ((n : Int) + 2) = ((n + 2 : Nat) : Int) := wrap_id (by omega) (by omega)
theorem wrap_m1 (n : Nat) (h : n ≤ 1000) : wrap64 ((n : Int) - 1) = (n : Int) - 1 := wrap_id (by omega) (by omega)
theorem wrap_m2 (n : Nat) (h : n ≤ 1000) : wrap64 ((n : Int) - 2) = (n : Int) - 2 := wrap_id (by omega) (by omega)
theorem drawl1_tells {b : List Int} (hb : bytesOk b) (hl : b.length ≤ 2000) (n : Nat) (h1 : 1 ≤ n) (hn : n ≤ 8) (x y : List Int) : ∀ (d i k p : Nat) (z : List Int), z.length ≤ 100 → i ≤ z.length → z.length - i = d → d + 2 ≤ k → p + d ≤ 90000 → okl n z →
    ∃ z' p', spec_l1Draw.l1 k (n : Int) (i : Int) b (p : Int) x y z = some (x, y, z', ((p' : Nat) : Int)) ∧ z'.length = z.length ∧ okl n z' ∧ p' ≤ p + d := by
  intro d
  induction d with
  | zero =>
    intro i k p z hz3 hi hd hk hp hz
    obtain ⟨k, rfl⟩ : ∃ m, k = m + 1 := ⟨k - 1, by omega⟩
    exact ⟨z, p, by rw [spec_l1Draw.l1, if_neg (by omega)], rfl, hz, by omega⟩
  | succ d ih =>
    intro i k p z hz3 hi hd hk hp hz
    obtain ⟨k, rfl⟩ : ∃ m, k = m + 1 := ⟨k - 1, by omega⟩
    obtain ⟨v, hv, e⟩ := pick_tells hb hl p (n + 1) k (by omega) (by omega) (by omega)
    obtain ⟨z', p', e2, l2, o2, q2⟩ := ih (i + 1) k (p + 1) (z.set i ((v : Int) - 1)) (by simp; omega) (by simp; omega) (by simp; omega) (by omega) (by omega) (okl_set hz i (by omega))
    refine ⟨z', p', ?_, by rw [l2]; simp, o2, by omega⟩
    rw [spec_l1Draw.l1, if_pos (by omega), wrap_p1 n (by omega), e]
    simp only [Option.bind_some]
    rw [if_pos (by omega), wrap_m1 v (by omega), wrap_succ (m := z.length) (by omega) (by omega), Int.toNat_natCast]
    exact e2
theorem drawl0_tells {b : List Int} (hb : bytesOk b) (hl : b.length ≤ 2000) (n : Nat) (h1 : 1 ≤ n) (hn : n ≤ 8) (z : List Int) (hzl : z.length ≤ 3) (hz : okl n z) : ∀ (d i k p : Nat) (x y : List Int), i ≤ n → n - i = d → d + 10 ≤ k → p + 2 * d ≤ 80000 → okl n x → okl n y → x.length = n → y.length = n →
    ∃ x' y' z' p', spec_l1Draw.l0 k (n : Int) (i : Int) b (p : Int) x y z = some (x', y', z', ((p' : Nat) : Int)) ∧ (x'.length = n ∧ y'.length = n ∧ z'.length = z.length) ∧ (okl n x' ∧ okl n y' ∧ okl n z') ∧ p' ≤ p + 2 * d + 3 := by
  intro d
  induction d with
  | zero =>
    intro i k p x y hi hd hk hp hx hy lx ly
    obtain ⟨k, rfl⟩ : ∃ m, k = m + 1 := ⟨k - 1, by omega⟩
    obtain ⟨z', p', e2, l2, o2, q2⟩ := drawl1_tells hb hl n h1 hn x y z.length 0 k p z (by omega) (by omega) (by omega) (by omega) (by omega) hz
    exact ⟨x, y, z', p', by rw [spec_l1Draw.l0, if_neg (by omega)]; exact e2, ⟨lx, ly, l2⟩, ⟨hx, hy, o2⟩, by omega⟩
  | succ d ih =>
    intro i k p x y hi hd hk hp hx hy lx ly
    obtain ⟨k, rfl⟩ : ∃ m, k = m + 1 := ⟨k - 1, by omega⟩
    obtain ⟨v, hv, e⟩ := pick_tells hb hl p (n + 2) k (by omega) (by omega) (by omega)
    obtain ⟨u, hu, f⟩ := pick_tells hb hl (p + 1) (n + 2) k (by omega) (by omega) (by omega)
    have r1 : rd (x.set i ((v : Int) - 1)) (i : Int) = (v : Int) - 1 := by
      have := rd_set_eq x (i : Int) ((v : Int) - 1) (by omega) (by omega)
      rwa [Int.toNat_natCast] at this
    have r2 : rd (y.set i ((u : Int) - 2)) (i : Int) = (u : Int) - 2 := by
      have := rd_set_eq y (i : Int) ((u : Int) - 2) (by omega) (by omega)
      rwa [Int.toNat_natCast] at this
    rw [spec_l1Draw.l0, if_pos (by omega), wrap_p2 n (by omega), e]
    simp only [Option.bind_some]
    rw [if_pos (by omega), if_pos (by omega), f]
    simp only [Option.bind_some]
    rw [if_pos (by omega), wrap_m1 v (by omega), wrap_m2 u (by omega), wrap_succ (m := n) (by omega) (by omega), Int.toNat_natCast]
    simp only [r1, r2]
    have go : ∀ (x2 y2 : List Int), okl n x2 → okl n y2 → x2.length = n → y2.length = n → ∃ x' y' z' p', spec_l1Draw.l0 k (n : Int) ((i + 1 : Nat) : Int) b ((p + 1 + 1 : Nat) : Int) x2 y2 z = some (x', y', z', ((p' : Nat) : Int)) ∧ (x'.length = n ∧ y'.length = n ∧ z'.length = z.length) ∧ (okl n x' ∧ okl n y' ∧ okl n z') ∧ p' ≤ p + 2 * (d + 1) + 3 := by
      intro x2 y2 a1 a2 a3 a4
      obtain ⟨x', y', z', p', g1, g2, g3, g4⟩ := ih (i + 1) k (p + 1 + 1) x2 y2 (by omega) (by omega) (by omega) (by omega) a1 a2 a3 a4
      exact ⟨x', y', z', p', g1, g2, g3, by omega⟩
    by_cases c1 : (v : Int) - 1 ≥ (n : Int)
    · have ox : okl n ((x.set i ((v : Int) - 1)).set i (-1)) := by rw [List.set_set]; exact okl_set hx i (by omega)
      rw [if_pos c1]
      by_cases c2 : (u : Int) - 2 < -1
      · have oy : okl n ((y.set i ((u : Int) - 2)).set i (-1)) := by rw [List.set_set]; exact okl_set hy i (by omega)
        rw [if_pos c2]
        exact go _ _ ox oy (by simp [lx]) (by simp [ly])
      · rw [if_neg c2]
        exact go _ _ ox (okl_set hy i (by omega)) (by simp [lx]) (by simp [ly])
    · rw [if_neg c1]
      by_cases c2 : (u : Int) - 2 < -1
      · have oy : okl n ((y.set i ((u : Int) - 2)).set i (-1)) := by rw [List.set_set]; exact okl_set hy i (by omega)
        rw [if_pos c2]
        exact go _ _ (okl_set hx i (by omega)) oy (by simp [lx]) (by simp [ly])
      · rw [if_neg c2]
        exact go _ _ (okl_set hx i (by omega)) (okl_set hy i (by omega)) (by simp [lx]) (by simp [ly])
theorem draw_tells {b : List Int} (hb : bytesOk b) (hl : b.length ≤ 2000) (p k : Nat) (hp : p ≤ 70000) (hk : 100 ≤ k) : ∃ x y z p', spec_l1Draw.f k b (p : Int) = some (x, y, z, ((p' : Nat) : Int)) ∧ hv x y z = true ∧ p' ≤ p + 30 := by
  obtain ⟨v, hv1, e1⟩ := num_tells hb hl p k [4, 3, 5, 6, 2, 8, 1] (by omega) (by simp) (by omega)
  obtain ⟨u, hu1, e2⟩ := num_tells hb hl (p + 1) k [2, 1, 3] (by omega) (by simp) (by omega)
  have bv : 1 ≤ v ∧ v ≤ 8 := by simp at hv1; omega
  have bu : 1 ≤ u ∧ u ≤ 3 := by simp at hu1; omega
  obtain ⟨n, rfl⟩ : ∃ n : Nat, v = (n : Int) := ⟨v.toNat, by omega⟩
  obtain ⟨m, rfl⟩ : ∃ n : Nat, u = (n : Int) := ⟨u.toNat, by omega⟩
  have hr : ∀ q : Nat, okl n (List.replicate q (-1)) := by
    intro q x hx
    rw [(List.mem_replicate.1 hx).2]; omega
  obtain ⟨x, y, z, p', f1, f2, f3, f4⟩ := drawl0_tells hb hl n (by omega) (by omega) (List.replicate m (-1)) (by simp; omega) (hr m) n 0 k (p + 1 + 1) (List.replicate n (-1)) (List.replicate n (-1)) (by omega) (by omega) (by omega) (by omega) (hr n) (hr n) (by simp) (by simp)
  refine ⟨x, y, z, p', ?_, ?_, by omega⟩
  · unfold spec_l1Draw.f
    rw [e1]
    simp only [Option.bind_some]
    rw [e2]
    simp only [Option.bind_some]
    rw [specNH_tells _ _ k (by omega)]
    simp only [Option.bind_some]
    unfold nhM
    rw [if_pos (by omega), Int.toNat_natCast, Int.toNat_natCast]
    exact f1
  · rw [List.length_replicate] at f2
    refine hv_iff.2 ⟨by omega, ?_, ?_, ?_⟩
    · intro w hw; have := f3.1 w hw; omega
    · intro w hw; have := f3.2.1 w hw; omega
    · intro w hw; have := f3.2.2 w hw; omega
theorem l1Copy_tells (a b c : List Int) (ha : a.length ≤ 1048576) (hb : b.length ≤ 1048576) (hc : c.length ≤ 1048576) : spec_l1Copy.f a b c = some (a, b, c) := by
  unfold spec_l1Copy.f
  simp only [Option.bind_some, List.length_nil, List.nil_append]
  rw [if_pos (by omega), if_pos (by omega), if_pos (by omega)]
def small3 (x y z : List Int) : Prop := x.length ≤ 20 ∧ y.length ≤ 20 ∧ z.length ≤ 20
theorem wrong_tells {b : List Int} (hb : bytesOk b) (hl : b.length ≤ 2000) (p k : Nat) (hp : p ≤ 70000) (hk : 100 ≤ k) (x y z : List Int) (h1 : 1 ≤ x.length) (hx : x.length ≤ 18) (hy : y.length ≤ 18) (hz : z.length ≤ 18) : ∃ x' y' z' p', spec_l1Wrong.f k b (p : Int) x y z = some (x', y', z', ((p' : Nat) : Int)) ∧ (x'.length = x.length ∧ y'.length ≤ y.length + 1 ∧ z'.length ≤ z.length + 1) ∧ p' ≤ p + 3 := by
  obtain ⟨v, hv, e⟩ := pick_tells hb hl p 20 k (by omega) (by omega) (by omega)
  obtain ⟨q, hq⟩ : ∃ q, k = q + 1 := ⟨k - 1, by omega⟩
  have hj : ∀ s0 s1 a b c, spec_l1Wrong.j0 k s0 s1 a b c = some (a, b, c, s1) := fun s0 s1 a b c => by rw [hq]; rfl
  have e' : spec_l13Rd_pick.f k b (p : Int) 20 = some ((v : Int), ((p + 1 : Nat) : Int)) := e
  unfold spec_l1Wrong.f
  rw [l1Copy_tells x y z (by omega) (by omega) (by omega)]
  simp only [Option.bind_some]
  rw [e']
  simp only [Option.bind_some]
  by_cases c0 : (v : Int) = 0
  · obtain ⟨u, hu, f⟩ := pick_tells hb hl (p + 1) x.length k (by omega) h1 (by omega)
    obtain ⟨t, ht, g⟩ := num_tells hb hl (p + 1 + 1) k [-2, 8, 0] (by omega) (by simp) (by omega)
    refine ⟨x.set u t, y, z, p + 1 + 1 + 1, ?_, ⟨?_, ?_, ?_⟩, by omega⟩
    · rw [if_pos c0, f]
      simp only [Option.bind_some]
      rw [g]
      simp only [Option.bind_some]
      rw [if_pos (by omega), if_pos (by omega), Int.toNat_natCast, hj]
    · simp
    · omega
    · omega
  · rw [if_neg c0]
    by_cases c1 : (v : Int) = 1
    · rw [if_pos c1, if_pos (by omega), hj]
      exact ⟨_, _, _, p + 1, rfl, ⟨rfl, by simp, by omega⟩, by omega⟩
    · rw [if_neg c1]
      by_cases c2 : (v : Int) = 2
      · obtain ⟨t, ht, g⟩ := num_tells hb hl (p + 1) k [0, -1, 9] (by omega) (by simp) (by omega)
        rw [if_pos c2, g]
        simp only [Option.bind_some]
        rw [if_pos (by omega), hj]
        exact ⟨_, _, _, p + 1 + 1, rfl, ⟨rfl, by omega, by simp⟩, by omega⟩
      · rw [if_neg c2]
        by_cases c3 : (v : Int) = 3
        · rw [if_pos c3, hj]
          exact ⟨_, _, _, p + 1, rfl, ⟨rfl, by omega, by simp⟩, by omega⟩
        · rw [if_neg c3, hj]
          exact ⟨_, _, _, p + 1, rfl, ⟨rfl, by omega, by omega⟩, by omega⟩
theorem drawHeapValid_tells {code : List Int} (hb0 : bytesOk code) (k : Nat) (hk : 100 ≤ k) : ∃ x y z, spec_DrawHeapValid.f k code = some (x, y, z) ∧ small3 x y z := by
  obtain ⟨b, hl, hb1, e0⟩ := open_tells code
  have hb := hb1 hb0
  obtain ⟨x, y, z, p, e1, h1, q1⟩ := draw_tells hb hl 0 k (by omega) hk
  have hv1 := hv_len h1
  obtain ⟨x', y', z', p', e2, l2, q2⟩ := wrong_tells hb hl p k (by omega) hk x y z (by omega) (by omega) (by omega) (by omega)
  refine ⟨x', y', z', ?_, by unfold small3; omega⟩
  unfold spec_DrawHeapValid.f
  rw [e0]
  simp only [Option.bind_some]
  rw [e1]
  simp only [Option.bind_some]
  rw [e2]
  rfl
theorem drawFormatHeap_tells {code : List Int} (hb0 : bytesOk code) (k : Nat) (hk : 100 ≤ k) : ∃ x y z, spec_DrawFormatHeap.f k code = some (x, y, z) ∧ small3 x y z := by
  obtain ⟨x, y, z, e1, s1⟩ := drawHeapValid_tells hb0 k hk
  refine ⟨x, y, z, ?_, s1⟩
  unfold spec_DrawFormatHeap.f
  rw [e1]
  rfl
/-- The byte of a pointer of one digit, or of none. -/
def gB (x : Int) : UInt8 := if x = -1 then 45 else UInt8.ofNat (48 + x.toNat)
def sgT (x : Int) : ByteArray := ⟨#[gB x]⟩
def cellsT : List Int → List Int → ByteArray → ByteArray
  | x :: a, y :: b, t => cellsT a b (t ++ ((sgT x ++ sgT y) ++ (⟨#[32]⟩ : ByteArray)))
  | _, _, t => t
def rootsT : List Int → ByteArray → ByteArray
  | x :: c, t => rootsT c (t ++ ((⟨#[32]⟩ : ByteArray) ++ sgT x))
  | [], t => t
/-- The text of a heap. -/
def textM (a b c : List Int) : ByteArray := if hv a b c = true then rootsT c (cellsT a b (⟨#[]⟩ : ByteArray) ++ (⟨#[47]⟩ : ByteArray)) else (⟨#[]⟩ : ByteArray)
theorem sgT_size (x : Int) : (sgT x).size = 1 := rfl
theorem sp_size : (⟨#[32]⟩ : ByteArray).size = 1 := rfl
theorem sl_size : (⟨#[47]⟩ : ByteArray).size = 1 := rfl
theorem cellsT_size : ∀ (a b : List Int) (t : ByteArray), a.length = b.length → (cellsT a b t).size = t.size + 3 * a.length
  | [], [], t, _ => by simp [cellsT]
  | x :: a, y :: b, t, h => by
    rw [cellsT, cellsT_size a b _ (by simpa using h), ByteArray.size_append, ByteArray.size_append, ByteArray.size_append, sgT_size, sgT_size, sp_size, List.length_cons]
    omega
  | [], y :: b, _, h => absurd h (by simp)
  | x :: a, [], _, h => absurd h (by simp)
theorem rootsT_size : ∀ (c : List Int) (t : ByteArray), (rootsT c t).size = t.size + 2 * c.length
  | [], t => by simp [rootsT]
  | x :: c, t => by
    rw [rootsT, rootsT_size c _, ByteArray.size_append, ByteArray.size_append, sgT_size, sp_size, List.length_cons]
    omega
theorem textM_size {a b c : List Int} (h : hv a b c = true) : (textM a b c).size = 3 * a.length + 2 * c.length + 1 := by
  have hl := hv_len h
  unfold textM
  rw [if_pos h, rootsT_size, ByteArray.size_append, cellsT_size _ _ _ hl.1, sl_size]
  show 0 + 3 * a.length + 1 + 2 * c.length = _
  omega
theorem textM_neg {a b c : List Int} (h : ¬ hv a b c = true) : textM a b c = (⟨#[]⟩ : ByteArray) := by unfold textM; rw [if_neg h]
theorem textM_le (a b c : List Int) : (textM a b c).size ≤ 31 := by
  by_cases h : hv a b c = true
  · have hl := hv_len h
    rw [textM_size h]; omega
  · rw [textM_neg h]; exact Nat.zero_le _
theorem ten_of {n : Nat} {l : List Int} (h : ∀ x ∈ l, -1 ≤ x ∧ x < (n : Int)) (hn : n ≤ 8) : ∀ x ∈ l, -1 ≤ x ∧ x < 10 := fun x hx => by have := h x hx; omega
theorem ten_cases {x : Int} (h : -1 ≤ x ∧ x < 10) : x = -1 ∨ x = 0 ∨ x = 1 ∨ x = 2 ∨ x = 3 ∨ x = 4 ∨ x = 5 ∨ x = 6 ∨ x = 7 ∨ x = 8 ∨ x = 9 := by omega
/-- A list of bytes, cut at each blank; p: what the first piece begins with. -/
def cutL : List UInt8 → List UInt8 → List (List UInt8)
  | p, [] => [p]
  | p, x :: l => if x = 32 then p :: cutL [] l else cutL (p ++ [x]) l
theorem cutL_no : ∀ (l p : List UInt8), 32 ∉ l → cutL p l = [p ++ l]
  | [], p, _ => by rw [cutL, List.append_nil]
  | x :: l, p, h => by
    have h1 : x ≠ 32 := fun e => h (by rw [e]; exact List.mem_cons_self)
    rw [cutL, if_neg h1, cutL_no l _ (fun k => h (List.mem_cons_of_mem _ k)), List.append_assoc]
    rfl
theorem cutL_hit : ∀ (u v p : List UInt8), 32 ∉ u → cutL p (u ++ 32 :: v) = (p ++ u) :: cutL [] v
  | [], v, p, _ => by
    show cutL p (32 :: v) = _
    rw [cutL, if_pos rfl, List.append_nil]
  | x :: u, v, p, h => by
    have h1 : x ≠ 32 := fun e => h (by rw [e]; exact List.mem_cons_self)
    show cutL p (x :: (u ++ 32 :: v)) = _
    rw [cutL, if_neg h1, cutL_hit u v _ (fun k => h (List.mem_cons_of_mem _ k)), List.append_assoc]
    rfl
def cellsL : List Int → List Int → List UInt8
  | x :: a, y :: b => gB x :: gB y :: 32 :: cellsL a b
  | _, _ => []
def rootsL : List Int → List UInt8
  | x :: c => 32 :: gB x :: rootsL c
  | [] => []
theorem cellsT_data : ∀ (a b : List Int) (t : ByteArray), (cellsT a b t).data.toList = t.data.toList ++ cellsL a b
  | x :: a, y :: b, t => by
    rw [cellsT, cellsT_data a b, ByteArray.data_append, ByteArray.data_append, ByteArray.data_append, Array.toList_append, Array.toList_append, Array.toList_append, cellsL, List.append_assoc]
    rfl
  | [], b, t => by cases b <;> simp [cellsT, cellsL]
  | x :: a, [], t => by simp [cellsT, cellsL]
theorem rootsT_data : ∀ (c : List Int) (t : ByteArray), (rootsT c t).data.toList = t.data.toList ++ rootsL c
  | x :: c, t => by
    rw [rootsT, rootsT_data c, ByteArray.data_append, ByteArray.data_append, Array.toList_append, Array.toList_append, rootsL, List.append_assoc]
    rfl
  | [], t => by simp [rootsT, rootsL]
theorem textM_data {a b c : List Int} (h : hv a b c = true) : (textM a b c).data.toList = cellsL a b ++ 47 :: rootsL c := by
  unfold textM
  rw [if_pos h, rootsT_data, ByteArray.data_append, Array.toList_append, cellsT_data, List.append_assoc]
  rfl
/-- The pieces of a heap's text. -/
def cellsP : List Int → List Int → List (List UInt8)
  | x :: a, y :: b => [gB x, gB y] :: cellsP a b
  | _, _ => []
theorem gB_ne {x : Int} (h : -1 ≤ x ∧ x < 10) : gB x ≠ 32 ∧ gB x ≠ 47 := by
  rcases ten_cases h with rfl | rfl | rfl | rfl | rfl | rfl | rfl | rfl | rfl | rfl | rfl <;> decide
theorem cutL_cells : ∀ (a b : List Int) (r : List UInt8), (∀ x ∈ a, -1 ≤ x ∧ x < 10) → (∀ x ∈ b, -1 ≤ x ∧ x < 10) → cutL [] (cellsL a b ++ r) = cellsP a b ++ cutL [] r
  | x :: a, y :: b, r, ha, hb => by
    have nx := gB_ne (ha x (by simp))
    have ny := gB_ne (hb y (by simp))
    show cutL [] (gB x :: gB y :: 32 :: (cellsL a b ++ r)) = [gB x, gB y] :: (cellsP a b ++ cutL [] r)
    rw [cutL, if_neg nx.1, cutL, if_neg ny.1, cutL, if_pos rfl, cutL_cells a b r (fun z hz => ha z (by simp [hz])) (fun z hz => hb z (by simp [hz]))]
    rfl
  | [], b, r, _, _ => by cases b <;> simp [cellsL, cellsP]
  | x :: a, [], r, _, _ => by simp [cellsL, cellsP]
theorem cutL_roots : ∀ (c : List Int) (p : List UInt8), (∀ x ∈ c, -1 ≤ x ∧ x < 10) → cutL p (rootsL c) = p :: c.map (fun x => [gB x])
  | x :: c, p, hc => by
    have nx := gB_ne (hc x (by simp))
    rw [rootsL, cutL, if_pos rfl, cutL, if_neg nx.1, cutL_roots c _ (fun z hz => hc z (by simp [hz]))]
    rfl
  | [], p, _ => by rw [rootsL, cutL]; rfl
theorem cutL_text {a b c : List Int} (h : hv a b c = true) : cutL [] (textM a b c).data.toList = cellsP a b ++ [47] :: c.map (fun x => [gB x]) := by
  have hl := hv_len h
  obtain ⟨_, ga, gb, gc⟩ := hv_iff.1 h
  rw [textM_data h, cutL_cells a b _ (ten_of ga (by omega)) (ten_of gb (by omega)), cutL, if_neg (by decide)]
  show cellsP a b ++ cutL [47] (rootsL c) = _
  rw [cutL_roots c _ (ten_of gc (by omega))]
theorem cellsP_len : ∀ (a b : List Int), a.length = b.length → (cellsP a b).length = a.length
  | x :: a, y :: b, h => by rw [cellsP, List.length_cons, cellsP_len a b (by simpa using h), List.length_cons]
  | [], b, _ => by cases b <;> rfl
  | x :: a, [], h => absurd h (by simp)
theorem cellsP_get : ∀ (a b : List Int) (i : Nat), a.length = b.length → i < a.length → (cellsP a b)[i]? = some [gB (rd a (i : Int)), gB (rd b (i : Int))]
  | x :: a, y :: b, 0, _, _ => rfl
  | x :: a, y :: b, i + 1, h, hi => by
    rw [cellsP, List.getElem?_cons_succ, cellsP_get a b i (by simpa using h) (by simpa using hi)]
    rfl
  | [], b, i, _, hi => absurd hi (by simp)
  | x :: a, [], i, h, _ => absurd h (by simp)
/-- What a list of texts holds at a place, as bytes. -/
def pcs (P : List ByteArray) : List (List UInt8) := P.map (fun x => x.data.toList)
theorem pcs_at {P : List ByteArray} {i : Nat} {l : List UInt8} (h : (pcs P)[i]? = some l) : i < P.length ∧ (rdOf ByteArray.empty P (i : Int)).data.toList = l := by
  unfold pcs at h
  rw [List.getElem?_map] at h
  have hi : i < P.length := Classical.byContradiction fun g => by
    rw [List.getElem?_eq_none (by omega)] at h; exact absurd h (by simp)
  refine ⟨hi, ?_⟩
  rw [List.getElem?_eq_getElem hi] at h
  unfold rdOf
  rw [Int.toNat_natCast, List.getD_eq_getElem?_getD, List.getElem?_eq_getElem hi]
  exact Option.some.inj h
theorem bt_list {s : ByteArray} {i : Nat} (h : i < s.size) : ∃ x : UInt8, s.data.toList[i]? = some x ∧ bt s (i : Int) = (x.toNat : Int) := by
  refine ⟨s[i]'h, ?_, ?_⟩
  · rw [Array.getElem?_toList]
    exact Array.getElem?_eq_getElem h
  · have := bt_at s (i : Int) (by rw [Int.toNat_natCast]; exact h)
    simp only [Int.toNat_natCast] at this
    exact this.symm
theorem size_list (s : ByteArray) : s.size = s.data.toList.length := Go.Lib.size_eq s
theorem cellsL_at {a b c : List Int} (h : hv a b c = true) : ∀ P : List ByteArray, pcs P = cutL [] (textM a b c).data.toList → P.length = a.length + 1 + c.length ∧ (∀ i : Nat, i < a.length → (rdOf ByteArray.empty P (i : Int)).data.toList = [gB (rd a (i : Int)), gB (rd b (i : Int))]) ∧ (rdOf ByteArray.empty P (a.length : Int)).data.toList = [47] ∧ ∀ j : Nat, j < c.length → (rdOf ByteArray.empty P ((a.length + 1 + j : Nat) : Int)).data.toList = [gB (rd c (j : Int))] := by
  intro P hP
  have hl := hv_len h
  have hp := cellsP_len a b hl.1
  rw [cutL_text h] at hP
  have e : P.length = a.length + 1 + c.length := by
    have : (pcs P).length = P.length := by unfold pcs; simp
    rw [← this, hP]; simp [hp]; omega
  refine ⟨e, fun i hi => ?_, ?_, fun j hj => ?_⟩
  · refine (pcs_at ?_).2
    rw [hP, List.getElem?_append_left (by omega)]
    exact cellsP_get a b i hl.1 hi
  · refine (pcs_at ?_).2
    rw [hP, List.getElem?_append_right (by omega), hp, Nat.sub_self]
    rfl
  · refine (pcs_at ?_).2
    rw [hP, List.getElem?_append_right (by omega), hp, show a.length + 1 + j - a.length = j + 1 from by omega, List.getElem?_cons_succ, List.getElem?_map, List.getElem?_eq_getElem hj, rd_nat c j hj]
    rfl
theorem l1Points_tells (x : Int) (n : Nat) : spec_l1Points.f x (n : Int) = some (okp n x) := by
  unfold spec_l1Points.f okp
  by_cases h : x ≥ -1
  · rw [if_pos h]; congr 1; simp; omega
  · rw [if_neg h]; congr 1; exact (decide_eq_false (fun h2 => h h2.1)).symm
theorem specHV_l1 (a b c : List Int) (n : Nat) (hl : c.length ≤ 3) : ∀ (d i k : Nat), i ≤ c.length → c.length - i = d → d < k →
    spec_HeapValid.l1 k (n : Int) (i : Int) a b c = some ((c.drop i).all (okp n)) := by
  intro d
  induction d with
  | zero =>
    intro i k hi hd hk
    obtain ⟨k, rfl⟩ : ∃ m, k = m + 1 := ⟨k - 1, by omega⟩
    rw [spec_HeapValid.l1, if_neg (by omega), all_drop_nil _ _ _ (by omega)]
  | succ d ih =>
    intro i k hi hd hk
    obtain ⟨k, rfl⟩ : ∃ m, k = m + 1 := ⟨k - 1, by omega⟩
    have hlt : i < c.length := by omega
    rw [spec_HeapValid.l1, if_pos (by omega), if_pos (by omega), l1Points_tells, all_drop_cons _ _ _ hlt, wrap_succ hlt (by omega)]
    simp only [Option.bind_some]
    cases h : okp n (rd c (i : Int)) with
    | true => rw [if_pos rfl, ih (i + 1) k (by omega) (by omega) (by omega), Bool.true_and]
    | false => rw [if_neg (by simp), Bool.false_and]
theorem specHV_l0 (a b c : List Int) (hl : c.length ≤ 3) (ha : a.length ≤ 8) (hb : b.length = a.length) : ∀ (d i k : Nat), i ≤ a.length → a.length - i = d → d + 5 < k →
    spec_HeapValid.l0 k (a.length : Int) (i : Int) a b c = some ((a.drop i).all (okp a.length) && ((b.drop i).all (okp a.length) && c.all (okp a.length))) := by
  intro d
  induction d with
  | zero =>
    intro i k hi hd hk
    obtain ⟨k, rfl⟩ : ∃ m, k = m + 1 := ⟨k - 1, by omega⟩
    rw [spec_HeapValid.l0, if_neg (by omega), all_drop_nil _ _ _ (by omega), all_drop_nil _ _ _ (by omega)]
    have := specHV_l1 a b c a.length hl c.length 0 k (by omega) (by omega) (by omega)
    simp only [List.drop_zero] at this
    rw [Bool.true_and, Bool.true_and]
    exact this
  | succ d ih =>
    intro i k hi hd hk
    obtain ⟨k, rfl⟩ : ∃ m, k = m + 1 := ⟨k - 1, by omega⟩
    have hlt : i < a.length := by omega
    have hlt2 : i < b.length := by omega
    rw [spec_HeapValid.l0, if_pos (by omega), if_pos (by omega), if_pos (by omega), l1Points_tells, all_drop_cons _ a _ hlt, all_drop_cons _ b _ hlt2]
    simp only [Option.bind_some]
    cases h : okp a.length (rd a (i : Int)) with
    | false => rw [if_neg (by simp), Bool.false_and, Bool.false_and]
    | true =>
      rw [if_pos rfl, if_pos (by omega), l1Points_tells, wrap_succ hlt (by omega)]
      simp only [Option.bind_some]
      cases h2 : okp a.length (rd b (i : Int)) with
      | false => rw [if_neg (by simp), Bool.false_and, Bool.false_and, Bool.and_false]
      | true => rw [if_pos rfl, ih (i + 1) k (by omega) (by omega) (by omega), Bool.true_and, Bool.true_and]
theorem hv_false {a b c : List Int} (h : ¬ (a.length = b.length ∧ 1 ≤ a.length ∧ a.length ≤ 8 ∧ 1 ≤ c.length ∧ c.length ≤ 3)) : hv a b c = false := by
  unfold hv; rw [decide_eq_false h, Bool.false_and]
theorem specHV_tells (a b c : List Int) (k : Nat) (hk : 40 ≤ k) : spec_HeapValid.f k a b c = some (hv a b c) := by
  unfold spec_HeapValid.f
  obtain ⟨k, rfl⟩ : ∃ m, k = m + 1 := ⟨k - 1, by omega⟩
  have hj : ∀ n : Int, spec_HeapValid.j0 (k + 1) n true a b c = some false := fun n => by rw [spec_HeapValid.j0, if_pos rfl]
  by_cases h1 : (a.length : Int) < 1
  · rw [if_pos h1, hj, hv_false (by omega)]
  rw [if_neg h1]
  by_cases h2 : (a.length : Int) > 8
  · rw [if_pos h2, hj, hv_false (by omega)]
  rw [if_neg h2]
  by_cases h3 : (b.length : Int) = (a.length : Int)
  · rw [if_pos h3]
    by_cases h4 : (c.length : Int) < 1
    · rw [if_pos h4, hj, hv_false (by omega)]
    rw [if_neg h4]
    by_cases h5 : (c.length : Int) > 3
    · rw [decide_eq_true h5, hj, hv_false (by omega)]
    rw [decide_eq_false h5, spec_HeapValid.j0, if_neg (by simp)]
    have := specHV_l0 a b c (by omega) (by omega) (by omega) a.length 0 k (by omega) (by omega) (by omega)
    simp only [List.drop_zero] at this
    refine this.trans ?_
    unfold hv
    rw [decide_eq_true (show a.length = b.length ∧ 1 ≤ a.length ∧ a.length ≤ 8 ∧ 1 ≤ c.length ∧ c.length ≤ 3 by omega), Bool.true_and]
  · rw [if_neg h3, hj, hv_false (by omega)]
theorem nums_digit {x : Int} (h : 0 ≤ x ∧ x < 10) : strOfNums [(wrap64 (48 + x)) % 256] = sgT x := by
  rw [wrap_id (by omega) (by omega)]
  rcases ten_cases (x := x) (by omega) with g | rfl | rfl | rfl | rfl | rfl | rfl | rfl | rfl | rfl | rfl
  · omega
  all_goals rfl
theorem l1Sign_tells {x : Int} (h : -1 ≤ x ∧ x < 10) (k : Nat) (hk : 2 ≤ k) : spec_l1Sign.f k x = some (sgT x) := by
  obtain ⟨k, rfl⟩ : ∃ m, k = m + 2 := ⟨k - 2, by omega⟩
  unfold spec_l1Sign.f
  by_cases g : x = -1
  · rw [if_pos g, g]; rfl
  · rw [if_neg g, spec_l13Dec.f, if_neg (by omega), if_neg (by omega), spec_l13Dec.l0, if_neg (by omega)]
    simp only [Option.bind_some]
    rw [nums_digit (by omega), if_pos (by rw [sgT_size]; decide)]
    rfl
theorem specFH_l1 (a b c : List Int) (hc : ∀ x ∈ c, -1 ≤ x ∧ x < 10) (hl : c.length ≤ 100) : ∀ (d i k : Nat) (t : ByteArray), i ≤ c.length → c.length - i = d → d + 3 < k → t.size + 2 * d ≤ 10000 → spec_FormatHeap.l1 k t (i : Int) a b c = some (rootsT (c.drop i) t) := by
  intro d
  induction d with
  | zero =>
    intro i k t hi hd hk ht
    obtain ⟨k, rfl⟩ : ∃ m, k = m + 1 := ⟨k - 1, by omega⟩
    rw [spec_FormatHeap.l1, if_neg (by omega), List.drop_eq_nil_of_le (by omega)]
    rfl
  | succ d ih =>
    intro i k t hi hd hk ht
    obtain ⟨k, rfl⟩ : ∃ m, k = m + 1 := ⟨k - 1, by omega⟩
    have hlt : i < c.length := by omega
    have hm := hc _ (rd_mem c (i : Int) (by omega) (by omega))
    rw [spec_FormatHeap.l1, if_pos (by omega), if_pos (by omega), if_pos (by omega), l1Sign_tells hm k (by omega)]
    simp only [Option.bind_some]
    rw [if_pos (by rw [ByteArray.size_append, sgT_size, sp_size]; omega), wrap_succ hlt (by omega), ih (i + 1) k _ (by omega) (by omega) (by omega) (by rw [ByteArray.size_append, ByteArray.size_append, sgT_size, sp_size]; omega), drop_rd c i hlt, rootsT, ByteArray.append_assoc]
theorem specFH_l0 (a b c : List Int) (hab : b.length = a.length) (ha : ∀ x ∈ a, -1 ≤ x ∧ x < 10) (hb : ∀ x ∈ b, -1 ≤ x ∧ x < 10) (hc : ∀ x ∈ c, -1 ≤ x ∧ x < 10) (hl : a.length ≤ 100) (hlc : c.length ≤ 100) : ∀ (d i k : Nat) (t : ByteArray), i ≤ a.length → a.length - i = d → d + c.length + 5 < k → t.size + 3 * d ≤ 5000 →
    spec_FormatHeap.l0 k t (i : Int) a b c = some (rootsT c (cellsT (a.drop i) (b.drop i) t ++ (⟨#[47]⟩ : ByteArray))) := by
  intro d
  induction d with
  | zero =>
    intro i k t hi hd hk ht
    obtain ⟨k, rfl⟩ : ∃ m, k = m + 1 := ⟨k - 1, by omega⟩
    rw [spec_FormatHeap.l0, if_neg (by omega), if_pos (by omega), List.drop_eq_nil_of_le (by omega), List.drop_eq_nil_of_le (by omega)]
    exact specFH_l1 a b c hc hlc c.length 0 k _ (by omega) (by omega) (by omega) (by rw [ByteArray.size_append, sl_size]; omega)
  | succ d ih =>
    intro i k t hi hd hk ht
    obtain ⟨k, rfl⟩ : ∃ m, k = m + 1 := ⟨k - 1, by omega⟩
    have hlt : i < a.length := by omega
    have ma := ha _ (rd_mem a (i : Int) (by omega) (by omega))
    have mb := hb _ (rd_mem b (i : Int) (by omega) (by omega))
    have h1 : (t ++ sgT (rd a (i : Int))).size = t.size + 1 := by rw [ByteArray.size_append, sgT_size]
    have h2 : (t ++ sgT (rd a (i : Int)) ++ sgT (rd b (i : Int))).size = t.size + 2 := by rw [ByteArray.size_append, h1, sgT_size]
    have h3 : (t ++ sgT (rd a (i : Int)) ++ sgT (rd b (i : Int)) ++ (⟨#[32]⟩ : ByteArray)).size = t.size + 3 := by rw [ByteArray.size_append, h2, sp_size]
    rw [spec_FormatHeap.l0, if_pos (by omega), if_pos (by omega), l1Sign_tells ma k (by omega)]
    simp only [Option.bind_some]
    rw [if_pos (by rw [sgT_size]; omega), if_pos (by omega), l1Sign_tells mb k (by omega)]
    simp only [Option.bind_some]
    rw [if_pos (by rw [h1, sgT_size]; omega), if_pos (by rw [h2]; omega), wrap_succ hlt (by omega), ih (i + 1) k _ (by omega) (by omega) (by omega) (by rw [h3]; omega), drop_rd a i hlt, drop_rd b i (by omega), cellsT, ByteArray.append_assoc, ByteArray.append_assoc, ByteArray.append_assoc]
theorem specFH_tells (a b c : List Int) (k : Nat) (hk : 100 ≤ k) : spec_FormatHeap.f k a b c = some (textM a b c) := by
  unfold spec_FormatHeap.f textM
  rw [specHV_tells a b c k (by omega)]
  simp only [Option.bind_some]
  by_cases h : hv a b c = true
  · have hl := hv_len h
    obtain ⟨_, ga, gb, gc⟩ := hv_iff.1 h
    rw [if_pos h, if_pos h]
    exact specFH_l0 a b c (by omega) (ten_of ga (by omega)) (ten_of gb (by omega)) (ten_of gc (by omega)) (by omega) (by omega) a.length 0 k _ (by omega) (by omega) (by omega) (by show 0 + 3 * a.length ≤ 5000; omega)
  · rw [if_neg h, if_neg h]
theorem of_tells {b : List Int} (hb : bytesOk b) (hl : b.length ≤ 2000) (p k : Nat) (l : List ByteArray) (hp : p ≤ 100000) (h1 : 1 ≤ l.length) (hk : 1 ≤ k) (hs : ∀ x ∈ l, x.size ≤ 10) : ∃ v : ByteArray, v.size ≤ 10 ∧ spec_l13Rd_of.f k b (p : Int) l = some (v, ((p + 1 : Nat) : Int)) := by
  obtain ⟨v, hv, e⟩ := pick_tells hb hl p l.length k hp h1 hk
  refine ⟨rdOf ByteArray.empty l (v : Int), ?_, ?_⟩
  · refine hs _ ?_
    unfold rdOf
    rw [Int.toNat_natCast, List.getD_eq_getElem?_getD, List.getElem?_eq_getElem hv]
    exact List.getElem_mem _
  · unfold spec_l13Rd_of.f
    rw [e]
    simp only [Option.bind_some]
    rw [if_pos (by omega), if_pos (by omega)]
theorem wrap_add (a b : Nat) (h : a ≤ 1000) (g : b ≤ 1000) : wrap64 ((a : Int) + (b : Int)) = ((a + b : Nat) : Int) := by rw [wrap_id (by omega) (by omega)]; omega
theorem size_extract (s : ByteArray) (a b : Nat) : (s.extract a b).size ≤ s.size := by
  rw [size_list, size_list s, Go.Lib.extract_data, List.length_take, List.length_drop]; omega
theorem drawParseHeap_tells {code : List Int} (hb0 : bytesOk code) (k : Nat) (hk : 200 ≤ k) : ∃ s : ByteArray, spec_DrawParseHeap.f k code = some s ∧ s.size ≤ 100 := by
  obtain ⟨b, hl, hb1, e0⟩ := open_tells code
  have hb := hb1 hb0
  obtain ⟨x, y, z, p, e1, h1, q1⟩ := draw_tells hb hl 0 k (by omega) (by omega)
  have ht := textM_le x y z
  have hz := textM_size h1
  obtain ⟨v, hv, e2⟩ := pick_tells hb hl p 2 k (by omega) (by omega) (by omega)
  have e2' : spec_l13Rd_pick.f k b (p : Int) 2 = some ((v : Int), ((p + 1 : Nat) : Int)) := e2
  unfold spec_DrawParseHeap.f
  rw [e0]
  simp only [Option.bind_some]
  rw [e1]
  simp only [Option.bind_some]
  rw [specFH_tells x y z k (by omega)]
  generalize textM x y z = s0 at ht hz ⊢
  rw [Option.bind_some, e2', Option.bind_some]
  by_cases g : (v : Int) = 0
  · rw [if_pos g]; exact ⟨_, rfl, by omega⟩
  · obtain ⟨u, hu, e3⟩ := pick_tells hb hl (p + 1) s0.size k (by omega) (by omega) (by omega)
    obtain ⟨t, hs, e4⟩ := of_tells hb hl (p + 1 + 1) k [(⟨#[]⟩ : ByteArray), (⟨#[32]⟩ : ByteArray), (⟨#[45]⟩ : ByteArray), (⟨#[47]⟩ : ByteArray), (⟨#[48]⟩ : ByteArray), (⟨#[55]⟩ : ByteArray)] (by omega) (by simp) (by omega) (by
      intro x hx
      simp only [List.mem_cons, List.not_mem_nil, or_false] at hx
      rcases hx with rfl | rfl | rfl | rfl | rfl | rfl <;> decide)
    obtain ⟨n, hn, e5⟩ := pick_tells hb hl (p + 1 + 1 + 1) 2 k (by omega) (by omega) (by omega)
    have e5' : spec_l13Rd_pick.f k b ((p + 1 + 1 + 1 : Nat) : Int) 2 = some ((n : Int), ((p + 1 + 1 + 1 + 1 : Nat) : Int)) := e5
    have s1 := size_extract s0 0 u
    have s2 := size_extract s0 (u + n) s0.size
    rw [if_neg g, e3, Option.bind_some, if_pos (by omega), if_pos (by omega), e4, Option.bind_some]
    dsimp only
    rw [Int.toNat_natCast, if_pos (by omega), e5', Option.bind_some]
    dsimp only
    rw [wrap_add u n (by omega) (by omega), if_pos (by omega), if_pos (by omega), Int.toNat_natCast, if_pos (by rw [ByteArray.size_append]; omega)]
    exact ⟨_, rfl, by rw [ByteArray.size_append, ByteArray.size_append]; omega⟩
theorem implHV_l1 (y : List (List Int)) (xs a b c : List Int) (i : Int) (h0 : -9223372036854775808 ≤ i) (h9 : i ≤ 9223372036854775806) (hl : xs.length ≤ 9223372036854775807) : ∀ (d j m : Nat), j ≤ xs.length → xs.length - j = d →
    impl_HeapValid.l1 (m + d + 1) y 3 i xs (xs.length : Int) (j : Int) a b c = if (xs.drop j).all (okp a.length) = true then impl_HeapValid.l0 m y 3 (i + 1) a b c else some false := by
  intro d
  induction d with
  | zero =>
    intro j m hj hd
    rw [impl_HeapValid.l1, if_neg (by omega), all_drop_nil _ _ _ (by omega), if_pos rfl, wrap_id (by omega) (by omega)]
  | succ d ih =>
    intro j m hj hd
    have hlt : j < xs.length := by omega
    rw [impl_HeapValid.l1, if_pos (by omega), if_pos (by omega), if_pos (by omega), all_drop_cons _ xs _ hlt, wrap_succ hlt hl]
    by_cases h1 : rd xs (j : Int) < -1
    · have : okp a.length (rd xs (j : Int)) = false := by unfold okp; exact decide_eq_false (by omega)
      rw [if_pos h1, this, Bool.false_and, if_neg (by simp)]
    · rw [if_neg h1]
      by_cases h2 : rd xs (j : Int) ≥ (a.length : Int)
      · have : okp a.length (rd xs (j : Int)) = false := by unfold okp; exact decide_eq_false (by omega)
        rw [if_pos h2, this, Bool.false_and, if_neg (by simp)]
      · have : okp a.length (rd xs (j : Int)) = true := by unfold okp; exact decide_eq_true (by omega)
        rw [if_neg h2, this, Bool.true_and]
        exact ih (j + 1) m (by omega) (by omega)
theorem implHV_l0 (a b c : List Int) (m : Nat) (hb : b.length ≤ 8) (ha : a.length ≤ 8) (hc : c.length ≤ 8) :
    impl_HeapValid.l0 (m + 1 + (c.length + 1) + 1 + (b.length + 1) + 1 + (a.length + 1) + 1) [a, b, c] 3 0 a b c = some (a.all (okp a.length) && (b.all (okp a.length) && c.all (okp a.length))) := by
  have e0 : rd_L3 [a, b, c] 0 = a := rfl
  have e1 : rd_L3 [a, b, c] 1 = b := rfl
  have e2 : rd_L3 [a, b, c] 2 = c := rfl
  rw [impl_HeapValid.l0, if_pos (by omega), if_pos (by omega), if_pos (by simp), e0]
  have s0 := implHV_l1 [a, b, c] a a b c 0 (by omega) (by omega) (by omega) a.length 0 (m + 1 + (c.length + 1) + 1 + (b.length + 1) + 1) (by omega) (by omega)
  simp only [List.drop_zero] at s0
  refine Eq.trans s0 ?_
  cases hA : a.all (okp a.length) with
  | false => rfl
  | true =>
    rw [if_pos rfl, Bool.true_and]
    rw [impl_HeapValid.l0, if_pos (by omega), if_pos (by omega), if_pos (by simp), show (0 : Int) + 1 = 1 from rfl, e1]
    have s1 := implHV_l1 [a, b, c] b a b c 1 (by omega) (by omega) (by omega) b.length 0 (m + 1 + (c.length + 1) + 1) (by omega) (by omega)
    simp only [List.drop_zero] at s1
    refine Eq.trans s1 ?_
    cases hB : b.all (okp a.length) with
    | false => rfl
    | true =>
      rw [if_pos rfl, Bool.true_and]
      rw [impl_HeapValid.l0, if_pos (by omega), if_pos (by omega), if_pos (by simp), show (1 : Int) + 1 = 2 from rfl, e2]
      have s2 := implHV_l1 [a, b, c] c a b c 2 (by omega) (by omega) (by omega) c.length 0 (m + 1) (by omega) (by omega)
      simp only [List.drop_zero] at s2
      refine Eq.trans s2 ?_
      cases hC : c.all (okp a.length) with
      | false => rfl
      | true => rw [if_pos rfl, impl_HeapValid.l0, if_neg (by omega)]
theorem implHV_tells (a b c : List Int) (k : Nat) (hk : 60 ≤ k) : impl_HeapValid.f k a b c = some (hv a b c) := by
  unfold impl_HeapValid.f
  obtain ⟨k, rfl⟩ : ∃ m, k = m + 1 := ⟨k - 1, by omega⟩
  have hj : impl_HeapValid.j0 (k + 1) true a b c = some false := by rw [impl_HeapValid.j0, if_pos rfl]
  by_cases h1 : (a.length : Int) = (b.length : Int)
  · rw [if_pos h1]
    by_cases h2 : (a.length : Int) < 1
    · rw [if_pos h2, hj, hv_false (by omega)]
    rw [if_neg h2]
    by_cases h3 : (a.length : Int) > 8
    · rw [if_pos h3, hj, hv_false (by omega)]
    rw [if_neg h3]
    by_cases h4 : (c.length : Int) < 1
    · rw [if_pos h4, hj, hv_false (by omega)]
    rw [if_neg h4]
    by_cases h5 : (c.length : Int) > 3
    · rw [decide_eq_true h5, hj, hv_false (by omega)]
    rw [decide_eq_false h5, impl_HeapValid.j0, if_neg (by simp)]
    simp only [Option.bind_some]
    obtain ⟨m, hm⟩ : ∃ m, k = m + 1 + (c.length + 1) + 1 + (b.length + 1) + 1 + (a.length + 1) + 1 := ⟨k - 1 - (c.length + 1) - 1 - (b.length + 1) - 1 - (a.length + 1) - 1, by omega⟩
    have := implHV_l0 a b c m (by omega) (by omega) (by omega)
    rw [← hm] at this
    refine Eq.trans this ?_
    unfold hv
    rw [decide_eq_true (show a.length = b.length ∧ 1 ≤ a.length ∧ a.length ≤ 8 ∧ 1 ≤ c.length ∧ c.length ≤ 3 by omega), Bool.true_and]
  · rw [if_neg h1, hj, hv_false (by omega)]
theorem digit_tells {x : Int} (h : -1 ≤ x ∧ x < 10) : impl_digit.f x = some (sgT x) := by
  rcases ten_cases h with rfl | rfl | rfl | rfl | rfl | rfl | rfl | rfl | rfl | rfl | rfl <;> rfl
theorem implFH_l1 (c : List Int) (hc : ∀ x ∈ c, -1 ≤ x ∧ x < 10) (hl : c.length ≤ 100) : ∀ (d i k : Nat) (t : ByteArray), i ≤ c.length → c.length - i = d → d < k → t.size + 2 * d ≤ 10000 → impl_FormatHeap.l1 k t c (c.length : Int) (i : Int) = some (rootsT (c.drop i) t) := by
  intro d
  induction d with
  | zero =>
    intro i k t hi hd hk ht
    obtain ⟨k, rfl⟩ : ∃ m, k = m + 1 := ⟨k - 1, by omega⟩
    rw [impl_FormatHeap.l1, if_neg (by omega), List.drop_eq_nil_of_le (by omega)]
    rfl
  | succ d ih =>
    intro i k t hi hd hk ht
    obtain ⟨k, rfl⟩ : ∃ m, k = m + 1 := ⟨k - 1, by omega⟩
    have hlt : i < c.length := by omega
    have hm := hc _ (rd_mem c (i : Int) (by omega) (by omega))
    have hs : ((⟨#[32]⟩ : ByteArray) ++ sgT (rd c (i : Int))).size = 2 := by rw [ByteArray.size_append, sgT_size, sp_size]
    rw [impl_FormatHeap.l1, if_pos (by omega), if_pos (by omega), if_pos (by omega), digit_tells hm]
    simp only [Option.bind_some]
    rw [if_pos (by rw [sgT_size]; omega), if_pos (by rw [hs]; omega), wrap_succ hlt (by omega), ih (i + 1) k _ (by omega) (by omega) (by omega) (by rw [ByteArray.size_append, hs]; omega), drop_rd c i hlt, rootsT]
theorem implFH_l0 (a b c : List Int) (hab : b.length = a.length) (ha : ∀ x ∈ a, -1 ≤ x ∧ x < 10) (hb : ∀ x ∈ b, -1 ≤ x ∧ x < 10) (hc : ∀ x ∈ c, -1 ≤ x ∧ x < 10) (hl : a.length ≤ 100) (hlc : c.length ≤ 100) : ∀ (d i k : Nat) (t : ByteArray), i ≤ a.length → a.length - i = d → d + c.length + 2 < k → t.size + 3 * d ≤ 5000 →
    impl_FormatHeap.l0 k t (a.length : Int) (i : Int) a b c = some (rootsT c (cellsT (a.drop i) (b.drop i) t ++ (⟨#[47]⟩ : ByteArray))) := by
  intro d
  induction d with
  | zero =>
    intro i k t hi hd hk ht
    obtain ⟨k, rfl⟩ : ∃ m, k = m + 1 := ⟨k - 1, by omega⟩
    rw [impl_FormatHeap.l0, if_neg (by omega), if_pos (by omega), List.drop_eq_nil_of_le (by omega), List.drop_eq_nil_of_le (by omega)]
    exact implFH_l1 c hc hlc c.length 0 k _ (by omega) (by omega) (by omega) (by rw [ByteArray.size_append, sl_size]; omega)
  | succ d ih =>
    intro i k t hi hd hk ht
    obtain ⟨k, rfl⟩ : ∃ m, k = m + 1 := ⟨k - 1, by omega⟩
    have hlt : i < a.length := by omega
    have ma := ha _ (rd_mem a (i : Int) (by omega) (by omega))
    have mb := hb _ (rd_mem b (i : Int) (by omega) (by omega))
    have hs : (sgT (rd a (i : Int)) ++ sgT (rd b (i : Int)) ++ (⟨#[32]⟩ : ByteArray)).size = 3 := by rw [ByteArray.size_append, ByteArray.size_append, sgT_size, sgT_size, sp_size]
    rw [impl_FormatHeap.l0, if_pos (by omega), if_pos (by omega), if_pos (by omega), digit_tells ma]
    simp only [Option.bind_some]
    rw [if_pos (by omega), digit_tells mb]
    simp only [Option.bind_some]
    rw [if_pos (by rw [sgT_size, sgT_size]; omega), if_pos (by rw [ByteArray.size_append, sgT_size, sgT_size]; omega), if_pos (by rw [hs]; omega), wrap_succ hlt (by omega), ih (i + 1) k _ (by omega) (by omega) (by omega) (by rw [ByteArray.size_append, hs]; omega), drop_rd a i hlt, drop_rd b i (by omega), cellsT]
theorem implFH_tells (a b c : List Int) (k : Nat) (hk : 100 ≤ k) : impl_FormatHeap.f k a b c = some (textM a b c) := by
  unfold impl_FormatHeap.f textM
  rw [implHV_tells a b c k (by omega)]
  simp only [Option.bind_some]
  by_cases h : hv a b c = true
  · have hl := hv_len h
    obtain ⟨_, ga, gb, gc⟩ := hv_iff.1 h
    rw [if_pos h, if_pos h]
    exact implFH_l0 a b c (by omega) (ten_of ga (by omega)) (ten_of gb (by omega)) (ten_of gc (by omega)) (by omega) (by omega) a.length 0 k _ (by omega) (by omega) (by omega) (by show 0 + 3 * a.length ≤ 5000; omega)
  · rw [if_neg h, if_neg h]
/-- What a parse of s may say: nothing, or a valid heap whose text is s. -/
def phOk (s : ByteArray) (r : List Int × List Int × List Int × Bool) : Prop := r = ([], [], [], false) ∨ ∃ a b c, r = (a, b, c, true) ∧ hv a b c = true ∧ textM a b c = s
theorem text_eq {s t : ByteArray} (h : t.toList = s.toList) : t = s := by
  rw [Go.Lib.toList_data, Go.Lib.toList_data] at h
  exact ByteArray.ext (Array.ext' h)
theorem list_two {l : List UInt8} {x y : UInt8} {q : ByteArray} (h : q.data.toList = l) (e : l = [x, y]) : q.size = 2 ∧ bt q 0 = (x.toNat : Int) ∧ bt q 1 = (y.toNat : Int) := by
  subst e
  have hz : q.size = 2 := by rw [size_list, h]; rfl
  obtain ⟨u, hu, e0⟩ := bt_list (s := q) (i := 0) (by omega)
  obtain ⟨v, hv, e1⟩ := bt_list (s := q) (i := 1) (by omega)
  rw [h] at hu hv
  have hu' : x = u := Option.some.inj hu
  have hv' : y = v := Option.some.inj hv
  subst hu' hv'
  exact ⟨hz, e0, e1⟩
theorem list_one {x : UInt8} {q : ByteArray} (h : q.data.toList = [x]) : q.size = 1 ∧ bt q 0 = (x.toNat : Int) := by
  have hz : q.size = 1 := by rw [size_list, h]; rfl
  obtain ⟨u, hu, e0⟩ := bt_list (s := q) (i := 0) (by omega)
  rw [h] at hu
  have hu' : x = u := Option.some.inj hu
  subst hu'
  exact ⟨hz, e0⟩
theorem gB_val {x : Int} (h : -1 ≤ x ∧ x < 8) : (x = -1 ∧ ((gB x).toNat : Int) = 45) ∨ (0 ≤ x ∧ x < 8 ∧ ((gB x).toNat : Int) = 48 + x) := by
  rcases ten_cases (x := x) (by omega) with rfl | rfl | rfl | rfl | rfl | rfl | rfl | rfl | rfl | rfl | rfl
  · exact Or.inl ⟨rfl, rfl⟩
  all_goals first | exact Or.inr ⟨by omega, by omega, rfl⟩ | omega
theorem wrap_byte {n : Int} (h0 : 0 ≤ n) (h1 : n ≤ 255) : wrap64 (wrap64 n - 48) = n - 48 := by rw [wrap_id (i := n) (by omega) (by omega), wrap_id (by omega) (by omega)]
theorem not_two {q : ByteArray} {x y : UInt8} (h : q.data.toList = [x, y]) : ¬ q.toList = ([47] : List UInt8) := fun g => by
  rw [Go.Lib.toList_data, h] at g; exact absurd (congrArg List.length g) (by simp)
theorem not_one {q : ByteArray} {x : UInt8} (h : q.data.toList = [x]) (hx : x ≠ 47) : ¬ q.toList = ([47] : List UInt8) := fun g => by
  rw [Go.Lib.toList_data, h] at g; exact hx (by injection g)
theorem index_hit {u v : List UInt8} (h : 32 ∉ u) : Go.Lib.index (u ++ 32 :: v) [32] = (u.length : Int) := by
  rw [Go.Lib.index_one]
  have hg := Go.Lib.indexByte_ge (u ++ 32 :: v) 32
  have at_ : (u ++ 32 :: v)[u.length]? = some 32 := by rw [List.getElem?_append_right (Nat.le_refl _), Nat.sub_self]; rfl
  by_cases g : Go.Lib.indexByte (u ++ 32 :: v) 32 = -1
  · exact absurd at_ (Go.Lib.indexByte_none g u.length)
  · obtain ⟨o, ho⟩ : ∃ o : Nat, Go.Lib.indexByte (u ++ 32 :: v) 32 = (o : Int) := ⟨(Go.Lib.indexByte (u ++ 32 :: v) 32).toNat, by omega⟩
    obtain ⟨h1, h2⟩ := Go.Lib.indexByte_some ho
    by_cases c1 : o < u.length
    · rw [List.getElem?_append_left c1] at h1
      exact absurd (List.mem_of_getElem? h1) h
    · by_cases c2 : u.length < o
      · exact absurd at_ (h2 u.length c2)
      · rw [ho, show o = u.length from by omega]
theorem splitK_cut : ∀ (k : Nat) (l : List UInt8), l.count 32 = k → Go.Lib.splitK [32] 0 k l = cutL [] l
  | 0, l, h => by
    rw [cutL_no l [] (List.count_eq_zero.1 h)]
    rfl
  | k + 1, l, h => by
    obtain ⟨u, v, rfl, hu⟩ := List.eq_append_cons_of_mem (List.count_pos_iff.1 (by omega : 0 < l.count 32))
    have hc : v.count 32 = k := by
      rw [List.count_append, List.count_eq_zero.2 hu, List.count_cons_self] at h
      omega
    rw [Go.Lib.splitK, index_hit hu, if_neg (by simp), cutL_hit u v [] hu]
    have e1 : ((u.length : Int)).toNat + 0 = u.length := by omega
    have e2 : ((u.length : Int)).toNat + ([32] : List UInt8).length = u.length + 1 := by simp
    rw [e1, e2, List.take_left', List.drop_append, List.drop_eq_nil_of_le (by omega), show u.length + 1 - u.length = 1 from by omega, splitK_cut k _ (by simpa using hc)]
    · rfl
    · rfl
theorem split_tells (s : ByteArray) (h : s.size ≤ 1048576) : ∃ P, strings_Split.f s (⟨#[32]⟩ : ByteArray) = some P ∧ pcs P = cutL [] s.data.toList ∧ P.length ≤ s.size + 1 := by
  have h1 : 1 ≤ (⟨#[32]⟩ : ByteArray).size := Nat.le_refl 1
  refine ⟨Go.Lib.splitB (⟨#[32]⟩ : ByteArray) 0 (Go.Lib.countB s (⟨#[32]⟩ : ByteArray)) s, ?_, ?_, ?_⟩
  · unfold strings_Split.f
    rw [if_pos ⟨rfl, h⟩]
  · unfold pcs
    rw [Go.Lib.splitB_data]
    show Go.Lib.splitK [32] 0 (Go.Lib.count s.data.toList [32]) s.data.toList = _
    exact splitK_cut _ _ (Go.Lib.count_one 32 s.data.toList).symm
  · have := Go.Lib.splitB_all (⟨#[32]⟩ : ByteArray) h1 0 _ s rfl
    have := Go.Lib.countB_le (⟨#[32]⟩ : ByteArray) h1 s.size s (Nat.le_refl _)
    omega
theorem value_tells {x : Int} (h : -1 ≤ x ∧ x < 8) : impl_ParseHeap_1.f ((gB x).toNat : Int) = some x := by
  unfold impl_ParseHeap_1.f
  rcases gB_val h with ⟨e, g⟩ | ⟨h0, h1, g⟩
  · rw [if_pos g, e]
  · rw [if_neg (by omega), g, wrap_byte (by omega) (by omega)]
    congr 1
    omega
theorem value_any (n : Int) : ∃ v, impl_ParseHeap_1.f n = some v := by
  unfold impl_ParseHeap_1.f
  by_cases h : n = 45
  · exact ⟨_, if_pos h⟩
  · exact ⟨_, if_neg h⟩
theorem implPH_end (s : ByteArray) (P : List ByteArray) (b : Bool) (k : Nat) (hk : 200 ≤ k) (x y z : List Int) : impl_ParseHeap.l0 k s b P (P.length : Int) (P.length : Int) x y z = some (if hv x y z = true ∧ textM x y z = s then (x, y, z, true) else ([], [], [], false)) := by
  obtain ⟨k, rfl⟩ : ∃ m, k = m + 1 := ⟨k - 1, by omega⟩
  rw [impl_ParseHeap.l0, if_neg (by omega), implHV_tells x y z k (by omega), implFH_tells x y z k (by omega)]
  simp only [Option.bind_some]
  by_cases h : hv x y z = true
  · rw [if_pos h]
    by_cases g : (textM x y z).toList = s.toList
    · rw [if_pos g, if_pos ⟨h, text_eq g⟩]
    · rw [if_neg g, if_neg (fun q => g (by rw [q.2]))]
  · rw [if_neg h, if_neg (fun q => h q.1)]
theorem implPH_any (s : ByteArray) (P : List ByteArray) (hP : P.length ≤ 1100000) : ∀ (d i k : Nat) (b : Bool) (x y z : List Int), i ≤ P.length → P.length - i = d → 3 * d + 300 ≤ k → x.length ≤ i → y.length ≤ i → z.length ≤ i → ∃ r, impl_ParseHeap.l0 k s b P (P.length : Int) (i : Int) x y z = some r ∧ phOk s r := by
  intro d
  induction d with
  | zero =>
    intro i k b x y z hi hd hk hx hy hz
    obtain rfl : i = P.length := by omega
    refine ⟨_, implPH_end s P b k (by omega) x y z, ?_⟩
    by_cases h : hv x y z = true ∧ textM x y z = s
    · rw [if_pos h]; exact Or.inr ⟨x, y, z, rfl, h.1, h.2⟩
    · rw [if_neg h]; exact Or.inl rfl
  | succ d ih =>
    intro i k b x y z hi hd hk hx hy hz
    obtain ⟨k, rfl⟩ : ∃ m, k = m + 3 := ⟨k - 3, by omega⟩
    have hlt : i < P.length := by omega
    have w : wrap64 ((i : Int) + 1) = ((i + 1 : Nat) : Int) := wrap_succ hlt (by omega)
    obtain ⟨q, hq⟩ : ∃ q, q = rdOf ByteArray.empty P (i : Int) := ⟨_, rfl⟩
    rw [impl_ParseHeap.l0, if_pos (by omega), if_pos (by omega), if_pos (by omega), ← hq]
    by_cases c1 : q.toList = ([47] : List UInt8)
    · rw [if_pos c1, w]
      exact ih (i + 1) (k + 2) true x y z (by omega) (by omega) (by omega) (by omega) (by omega) (by omega)
    · rw [if_neg c1]
      have two : ∃ r, impl_ParseHeap.j2 (k + 1) s b q P (P.length : Int) (i : Int) ((q.size : Int) == 2) x y z = some r ∧ phOk s r := by
        rw [impl_ParseHeap.j2]
        by_cases g : ((q.size : Int) == 2) = true
        · have hz2 : (q.size : Int) = 2 := by simpa using g
          obtain ⟨v0, e0⟩ := value_any (bt q 0)
          obtain ⟨v1, e1⟩ := value_any (bt q 1)
          rw [if_pos g, if_pos (by omega), e0]
          simp only [Option.bind_some]
          rw [if_pos (by omega), if_pos (by omega), e1]
          simp only [Option.bind_some]
          rw [if_pos (by omega), w]
          exact ih (i + 1) k b _ _ z (by omega) (by omega) (by omega) (by simp; omega) (by simp; omega) (by omega)
        · rw [if_neg g]; exact ⟨_, rfl, Or.inl rfl⟩
      have none2 : ∃ r, impl_ParseHeap.j2 (k + 1) s b q P (P.length : Int) (i : Int) false x y z = some r ∧ phOk s r := by
        rw [impl_ParseHeap.j2, if_neg (by simp)]; exact ⟨_, rfl, Or.inl rfl⟩
      cases b with
      | true =>
        rw [if_pos rfl, impl_ParseHeap.j1]
        by_cases g : ((q.size : Int) == 1) = true
        · have hz1 : (q.size : Int) = 1 := by simpa using g
          obtain ⟨v0, e0⟩ := value_any (bt q 0)
          rw [if_pos g, if_pos (by omega), e0]
          simp only [Option.bind_some]
          rw [if_pos (by omega), w]
          exact ih (i + 1) (k + 1) true x y _ (by omega) (by omega) (by omega) (by omega) (by omega) (by simp; omega)
        · rw [if_neg g, if_pos rfl]; exact none2
      | false =>
        rw [if_neg (by simp), impl_ParseHeap.j1, if_neg (by simp), if_neg (by simp)]
        exact two
theorem implPH_sound (s : ByteArray) (hs : s.size ≤ 1048576) (k : Nat) (hk : 3200000 ≤ k) : ∃ r, impl_ParseHeap.f k s = some r ∧ phOk s r := by
  obtain ⟨P, e, _, l⟩ := split_tells s hs
  unfold impl_ParseHeap.f
  rw [e]
  simp only [Option.bind_some]
  exact implPH_any s P (by omega) P.length 0 k false [] [] [] (by omega) (by omega) (by omega) (by simp) (by simp) (by simp)
theorem implPH_roots {a b c : List Int} (h : hv a b c = true) {P : List ByteArray} (hP : pcs P = cutL [] (textM a b c).data.toList) : ∀ (d j k : Nat), j ≤ c.length → c.length - j = d → 3 * d + 300 ≤ k → impl_ParseHeap.l0 k (textM a b c) true P (P.length : Int) ((a.length + 1 + j : Nat) : Int) a b (c.take j) = some (a, b, c, true) := by
  have hl := hv_len h
  have gc := (hv_iff.1 h).2.2.2
  obtain ⟨e, p1, p2, p3⟩ := cellsL_at h P hP
  intro d
  induction d with
  | zero =>
    intro j k hj hd hk
    obtain rfl : j = c.length := by omega
    rw [← e, implPH_end _ P true k (by omega), List.take_length, if_pos ⟨h, rfl⟩]
  | succ d ih =>
    intro j k hj hd hk
    obtain ⟨k, rfl⟩ : ∃ m, k = m + 3 := ⟨k - 3, by omega⟩
    have hlt : j < c.length := by omega
    have hr := gc _ (rd_mem c (j : Int) (by omega) (by omega))
    have q := p3 j hlt
    obtain ⟨z1, b1⟩ := list_one q
    rw [impl_ParseHeap.l0, if_pos (by omega), if_pos (by omega), if_pos (by omega), if_neg (not_one q (gB_ne (by omega)).2), if_pos rfl, impl_ParseHeap.j1, if_pos (by rw [z1]; rfl), if_pos (by omega), b1, value_tells (by omega)]
    simp only [Option.bind_some]
    rw [if_pos (by rw [List.length_take]; omega), wrap_succ (n := a.length + 1 + j) (m := a.length + 1 + c.length) (by omega) (by omega), show (c.take j ++ [rd c (j : Int)]) = c.take (j + 1) from by rw [rd_nat c j hlt, List.take_succ_eq_append_getElem hlt]]
    exact ih (j + 1) (k + 1) (by omega) (by omega) (by omega)
theorem implPH_cells {a b c : List Int} (h : hv a b c = true) {P : List ByteArray} (hP : pcs P = cutL [] (textM a b c).data.toList) : ∀ (d i k : Nat), i ≤ a.length → a.length - i = d → 3 * d + 900 ≤ k → impl_ParseHeap.l0 k (textM a b c) false P (P.length : Int) (i : Int) (a.take i) (b.take i) [] = some (a, b, c, true) := by
  have hl := hv_len h
  have ga := (hv_iff.1 h).2.1
  have gb := (hv_iff.1 h).2.2.1
  obtain ⟨e, p1, p2, p3⟩ := cellsL_at h P hP
  intro d
  induction d with
  | zero =>
    intro i k hi hd hk
    obtain ⟨k, rfl⟩ : ∃ m, k = m + 1 := ⟨k - 1, by omega⟩
    obtain rfl : i = a.length := by omega
    rw [impl_ParseHeap.l0, if_pos (by omega), if_pos (by omega), if_pos (by omega), if_pos (by rw [Go.Lib.toList_data, p2]), wrap_succ (n := a.length) (m := a.length + 1) (by omega) (by omega), List.take_length, show b.take a.length = b from by rw [hl.1, List.take_length]]
    exact implPH_roots h hP c.length 0 k (by omega) (by omega) (by omega)
  | succ d ih =>
    intro i k hi hd hk
    obtain ⟨k, rfl⟩ : ∃ m, k = m + 3 := ⟨k - 3, by omega⟩
    have hlt : i < a.length := by omega
    have hlb : i < b.length := by omega
    have ra := ga _ (rd_mem a (i : Int) (by omega) (by omega))
    have rb := gb _ (rd_mem b (i : Int) (by omega) (by omega))
    have q := p1 i hlt
    obtain ⟨z2, b0, b1⟩ := list_two q rfl
    rw [impl_ParseHeap.l0, if_pos (by omega), if_pos (by omega), if_pos (by omega), if_neg (not_two q), if_neg (by simp), impl_ParseHeap.j1, if_neg (by simp), if_neg (by simp), impl_ParseHeap.j2, if_pos (by rw [z2]; rfl), if_pos (by omega), b0, value_tells (by omega)]
    simp only [Option.bind_some]
    rw [if_pos (by rw [List.length_take]; omega), if_pos (by omega), b1, value_tells (by omega)]
    simp only [Option.bind_some]
    rw [if_pos (by rw [List.length_take]; omega), wrap_succ (n := i) (m := a.length) (by omega) (by omega), show (a.take i ++ [rd a (i : Int)]) = a.take (i + 1) from by rw [rd_nat a i hlt, List.take_succ_eq_append_getElem hlt], show (b.take i ++ [rd b (i : Int)]) = b.take (i + 1) from by rw [rd_nat b i hlb, List.take_succ_eq_append_getElem hlb]]
    exact ih (i + 1) k (by omega) (by omega) (by omega)
theorem implPH_text {a b c : List Int} (h : hv a b c = true) (k : Nat) (hk : 10000 ≤ k) : impl_ParseHeap.f k (textM a b c) = some (a, b, c, true) := by
  have hl := hv_len h
  have ht := textM_le a b c
  obtain ⟨P, e, p, l⟩ := split_tells (textM a b c) (by omega)
  unfold impl_ParseHeap.f
  rw [e]
  simp only [Option.bind_some]
  exact implPH_cells h p a.length 0 k (by omega) (by omega) (by omega)
theorem l13Cut_l0 (s : ByteArray) (hs : s.size ≤ 1048576) : ∀ (d i j k : Nat) (acc : List ByteArray), i ≤ s.size → s.size - i = d → d + 2 ≤ k → j ≤ i → acc.length ≤ i →
    ∃ P, spec_l13Cut.l0 k s 32 acc (j : Int) (i : Int) = some (acc ++ P) ∧ pcs P = cutL ((s.data.toList.drop j).take (i - j)) (s.data.toList.drop i) ∧ P.length ≤ d + 1 := by
  have hz := size_list s
  intro d
  induction d with
  | zero =>
    intro i j k acc hi hd hk hj ha
    obtain ⟨k, rfl⟩ : ∃ m, k = m + 2 := ⟨k - 2, by omega⟩
    refine ⟨[s.extract j i], ?_, ?_, by simp⟩
    · rw [spec_l13Cut.l0, if_pos (by omega), if_pos (by omega), if_pos (by omega), if_pos (by omega), if_pos (by omega), wrap_succ (m := s.size + 1) (by omega) (by omega), spec_l13Cut.l0, if_neg (by omega), Int.toNat_natCast, Int.toNat_natCast]
    · rw [List.drop_eq_nil_of_le (i := i) (by omega), cutL]
      unfold pcs
      rw [List.map_cons, List.map_nil, Go.Lib.extract_data]
  | succ d ih =>
    intro i j k acc hi hd hk hj ha
    obtain ⟨k, rfl⟩ : ∃ m, k = m + 1 := ⟨k - 1, by omega⟩
    have hlt : i < s.size := by omega
    obtain ⟨x, hx, hb⟩ := bt_list hlt
    have hxx : s.data.toList.drop i = x :: s.data.toList.drop (i + 1) := by
      rw [List.drop_eq_getElem_cons (by omega)]
      rw [List.getElem?_eq_getElem (by omega)] at hx
      rw [Option.some.inj hx]
    rw [hxx, cutL]
    by_cases g : x = 32
    · obtain ⟨P, e, p, l⟩ := ih (i + 1) (i + 1) k (acc ++ [s.extract j i]) (by omega) (by omega) (by omega) (Nat.le_refl _) (by simp; omega)
      rw [Nat.sub_self, List.take_zero] at p
      refine ⟨s.extract j i :: P, ?_, ?_, by simp; omega⟩
      · rw [spec_l13Cut.l0, if_pos (by omega), if_neg (by omega), if_pos (by omega), if_pos (by omega), if_pos (by rw [hb, g]; rfl), if_pos (by omega), if_pos (by omega), if_pos (by omega), wrap_succ (m := s.size + 1) (by omega) (by omega), Int.toNat_natCast, Int.toNat_natCast, e, List.append_assoc]
        rfl
      · rw [if_pos g, ← p]
        unfold pcs
        rw [List.map_cons, Go.Lib.extract_data]
    · obtain ⟨P, e, p, l⟩ := ih (i + 1) j k acc (by omega) (by omega) (by omega) (by omega) (by omega)
      have hn : ¬ bt s (i : Int) = 32 := fun q => g (by
        rw [hb] at q
        have : x.toNat = 32 := by omega
        exact UInt8.toNat_inj.1 (by rw [this]; rfl))
      refine ⟨P, ?_, ?_, by omega⟩
      · rw [spec_l13Cut.l0, if_pos (by omega), if_neg (by omega), if_pos (by omega), if_pos (by omega), if_neg hn, wrap_succ (m := s.size + 1) (by omega) (by omega), e]
      · rw [if_neg g, p]
        congr 1
        rw [show i + 1 - j = (i - j) + 1 from by omega, List.take_succ_eq_append_getElem (by rw [List.length_drop]; omega), List.getElem_drop]
        congr 1
        rw [List.getElem?_eq_getElem (by omega)] at hx
        rw [← Option.some.inj hx]
        congr 2
        omega
theorem l13Cut_tells (s : ByteArray) (hs : s.size ≤ 1048576) (k : Nat) (hk : 1048600 ≤ k) : ∃ P, spec_l13Cut.f k s 32 = some P ∧ pcs P = cutL [] s.data.toList ∧ P.length ≤ s.size + 1 := by
  obtain ⟨P, e, p, l⟩ := l13Cut_l0 s hs s.size 0 0 k [] (by omega) (by omega) (by omega) (by omega) (by simp)
  refine ⟨P, ?_, ?_, l⟩
  · unfold spec_l13Cut.f
    exact e
  · rw [p]; simp
theorem read_tells {x : Int} (h : -1 ≤ x ∧ x < 8) : spec_l1Read.f ((gB x).toNat : Int) = some (x, true) := by
  unfold spec_l1Read.f
  rcases gB_val h with ⟨e, g⟩ | ⟨h0, h1, g⟩
  · rw [if_pos g, e]
  · rw [if_neg (by omega), if_pos (by omega), g, wrap_byte (by omega) (by omega), decide_eq_true (by omega)]
    congr 2
    omega
theorem read_any (n : Int) : ∃ v o, spec_l1Read.f n = some (v, o) := by
  unfold spec_l1Read.f
  by_cases h : n = 45
  · exact ⟨_, _, if_pos h⟩
  · rw [if_neg h]
    by_cases g : n ≥ 48
    · exact ⟨_, _, if_pos g⟩
    · exact ⟨_, _, if_neg g⟩
theorem specPH_end (s : ByteArray) (P : List ByteArray) (b : Bool) (i : Int) (k : Nat) (hk : 200 ≤ k) (x y z : List Int) : spec_ParseHeap.j1 k s P b i false x y z = some (if hv x y z = true ∧ textM x y z = s then (x, y, z, true) else ([], [], [], false)) := by
  obtain ⟨k, rfl⟩ : ∃ m, k = m + 1 := ⟨k - 1, by omega⟩
  rw [spec_ParseHeap.j1, if_neg (by simp), specHV_tells x y z k (by omega), specFH_tells x y z k (by omega)]
  simp only [Option.bind_some]
  by_cases h : hv x y z = true
  · rw [if_pos h]
    by_cases g : (textM x y z).toList = s.toList
    · rw [if_pos g, if_pos ⟨h, text_eq g⟩]
    · rw [if_neg g, if_neg (fun q => g (by rw [q.2]))]
  · rw [if_neg h, if_neg (fun q => h q.1)]
theorem specPH_ends (s : ByteArray) (P : List ByteArray) (b : Bool) (i : Int) (k : Nat) (hk : 200 ≤ k) (x y z : List Int) : ∃ r, spec_ParseHeap.j1 k s P b i false x y z = some r ∧ phOk s r := by
  refine ⟨_, specPH_end s P b i k hk x y z, ?_⟩
  by_cases h : hv x y z = true ∧ textM x y z = s
  · rw [if_pos h]; exact Or.inr ⟨x, y, z, rfl, h.1, h.2⟩
  · rw [if_neg h]; exact Or.inl rfl
theorem specPH_any (s : ByteArray) (P : List ByteArray) (hP : P.length ≤ 1100000) : ∀ (d i k : Nat) (b : Bool) (x y z : List Int), 17 - i = d → i ≤ 17 → 5 * d + 300 ≤ k → x.length ≤ i → y.length ≤ i → z.length ≤ i → ∃ r, spec_ParseHeap.l0 k s P b (i : Int) x y z = some r ∧ phOk s r := by
  intro d
  induction d with
  | zero =>
    intro i k b x y z hd hi hk hx hy hz
    obtain ⟨k, rfl⟩ : ∃ m, k = m + 1 := ⟨k - 1, by omega⟩
    have e16 : decide ((i : Int) < 16) = false := decide_eq_false (by omega)
    rw [spec_ParseHeap.l0, e16, ite_self]
    exact specPH_ends s P b _ k (by omega) x y z
  | succ d ih =>
    intro i k b x y z hd hi hk hx hy hz
    obtain ⟨k, rfl⟩ : ∃ m, k = m + 5 := ⟨k - 5, by omega⟩
    by_cases hlt : i < P.length ∧ i < 16
    · have w : wrap64 ((i : Int) + 1) = ((i + 1 : Nat) : Int) := wrap_succ hlt.1 (by omega)
      obtain ⟨q, hq⟩ : ∃ q, q = rdOf ByteArray.empty P (i : Int) := ⟨_, rfl⟩
      have fail : ∃ r, (some (([] : List Int), ([] : List Int), ([] : List Int), false) : Option (List Int × List Int × List Int × Bool)) = some r ∧ phOk s r := ⟨_, rfl, Or.inl rfl⟩
      have hj4 : ∀ (g : Bool), (g = true → (q.size : Int) = 2) → ∃ r, spec_ParseHeap.j4 (k + 1) s P b (i : Int) q g x y z = some r ∧ phOk s r := by
        intro g hg
        obtain ⟨v0, o0, e0⟩ := read_any (bt q 0)
        obtain ⟨v1, o1, e1⟩ := read_any (bt q 1)
        rw [spec_ParseHeap.j4]
        cases g with
        | false => rw [if_neg (by simp)]; exact fail
        | true =>
          have := hg rfl
          rw [if_pos rfl, if_pos (by omega), e0]
          simp only [Option.bind_some]
          rw [if_pos (by omega), e1]
          simp only [Option.bind_some]
          cases o0 with
          | false => rw [if_neg (by simp)]; exact fail
          | true =>
            cases o1 with
            | false => rw [if_pos rfl, if_neg (by simp)]; exact fail
            | true =>
              rw [if_pos rfl, if_pos rfl, if_pos (by omega), if_pos (by omega), w]
              exact ih (i + 1) k b _ _ z (by omega) (by omega) (by omega) (by simp; omega) (by simp; omega) (by omega)
      have hj3 : ∀ (g : Bool), (g = true → (q.size : Int) = 1) → ∃ r, spec_ParseHeap.j3 (k + 2) s P b (i : Int) q g x y z = some r ∧ phOk s r := by
        intro g hg
        obtain ⟨v0, o0, e0⟩ := read_any (bt q 0)
        rw [spec_ParseHeap.j3]
        cases g with
        | false =>
          rw [if_neg (by simp)]
          cases b with
          | true => rw [if_pos rfl]; exact hj4 false (by simp)
          | false => rw [if_neg (by simp)]; exact hj4 _ (by simp)
        | true =>
          have := hg rfl
          rw [if_pos rfl, if_pos (by omega), e0]
          simp only [Option.bind_some]
          cases o0 with
          | false => rw [if_neg (by simp)]; exact fail
          | true =>
            rw [if_pos rfl, if_pos (by omega), w]
            exact ih (i + 1) (k + 1) b x y _ (by omega) (by omega) (by omega) (by omega) (by omega) (by simp; omega)
      have hj2 : ∀ (g : Bool), ∃ r, spec_ParseHeap.j2 (k + 3) s P b (i : Int) q g x y z = some r ∧ phOk s r := by
        intro g
        rw [spec_ParseHeap.j2]
        cases g with
        | true =>
          rw [if_pos rfl, w]
          exact ih (i + 1) (k + 2) true x y z (by omega) (by omega) (by omega) (by omega) (by omega) (by omega)
        | false =>
          rw [if_neg (by simp)]
          cases b with
          | true => rw [if_pos rfl]; exact hj3 _ (by simp)
          | false => rw [if_neg (by simp)]; exact hj3 false (by simp)
      rw [spec_ParseHeap.l0, if_pos (by omega), decide_eq_true (by omega), spec_ParseHeap.j1, if_pos rfl, if_pos (by omega), if_pos (by omega), ← hq]
      by_cases c1 : q.toList = ([47] : List UInt8)
      · rw [if_pos c1]; exact hj2 _
      · rw [if_neg c1]; exact hj2 _
    · rw [spec_ParseHeap.l0]
      by_cases c : (i : Int) < (P.length : Int)
      · rw [if_pos c, decide_eq_false (by omega)]
        exact specPH_ends s P b _ (k + 4) (by omega) x y z
      · rw [if_neg c]
        exact specPH_ends s P b _ (k + 4) (by omega) x y z
theorem specPH_sound (s : ByteArray) (hs : s.size ≤ 1048576) (k : Nat) (hk : 1048600 ≤ k) : ∃ r, spec_ParseHeap.f k s = some r ∧ phOk s r := by
  obtain ⟨P, e, _, l⟩ := l13Cut_tells s hs k hk
  unfold spec_ParseHeap.f
  rw [e]
  simp only [Option.bind_some]
  exact specPH_any s P (by omega) 17 0 k false [] [] [] (by omega) (by omega) (by omega) (by simp) (by simp) (by simp)
theorem specPH_roots {a b c : List Int} (h : hv a b c = true) {P : List ByteArray} (hP : pcs P = cutL [] (textM a b c).data.toList) : ∀ (d j k : Nat), j ≤ c.length → c.length - j = d → 4 * d + 300 ≤ k → spec_ParseHeap.l0 k (textM a b c) P true ((a.length + 1 + j : Nat) : Int) a b (c.take j) = some (a, b, c, true) := by
  have hl := hv_len h
  have gc := (hv_iff.1 h).2.2.2
  obtain ⟨e, p1, p2, p3⟩ := cellsL_at h P hP
  intro d
  induction d with
  | zero =>
    intro j k hj hd hk
    obtain ⟨k, rfl⟩ : ∃ m, k = m + 1 := ⟨k - 1, by omega⟩
    obtain rfl : j = c.length := by omega
    rw [spec_ParseHeap.l0, if_neg (by omega), specPH_end _ P true _ k (by omega), List.take_length, if_pos ⟨h, rfl⟩]
  | succ d ih =>
    intro j k hj hd hk
    obtain ⟨k, rfl⟩ : ∃ m, k = m + 4 := ⟨k - 4, by omega⟩
    have hlt : j < c.length := by omega
    have hr := gc _ (rd_mem c (j : Int) (by omega) (by omega))
    have q := p3 j hlt
    obtain ⟨z1, b1⟩ := list_one q
    rw [spec_ParseHeap.l0, if_pos (by omega), decide_eq_true (by omega), spec_ParseHeap.j1, if_pos rfl, if_pos (by omega), if_pos (by omega), if_neg (not_one q (gB_ne (by omega)).2), spec_ParseHeap.j2, if_neg (by simp), if_pos rfl, spec_ParseHeap.j3, if_pos (by rw [z1]; rfl), if_pos (by omega), b1, read_tells (by omega)]
    simp only [Option.bind_some]
    rw [if_pos trivial, if_pos (by rw [List.length_take]; omega), wrap_succ (n := a.length + 1 + j) (m := a.length + 1 + c.length) (by omega) (by omega), show (c.take j ++ [rd c (j : Int)]) = c.take (j + 1) from by rw [rd_nat c j hlt, List.take_succ_eq_append_getElem hlt]]
    exact ih (j + 1) k (by omega) (by omega) (by omega)
theorem specPH_cells {a b c : List Int} (h : hv a b c = true) {P : List ByteArray} (hP : pcs P = cutL [] (textM a b c).data.toList) : ∀ (d i k : Nat), i ≤ a.length → a.length - i = d → 5 * d + 900 ≤ k → spec_ParseHeap.l0 k (textM a b c) P false (i : Int) (a.take i) (b.take i) [] = some (a, b, c, true) := by
  have hl := hv_len h
  have ga := (hv_iff.1 h).2.1
  have gb := (hv_iff.1 h).2.2.1
  obtain ⟨e, p1, p2, p3⟩ := cellsL_at h P hP
  intro d
  induction d with
  | zero =>
    intro i k hi hd hk
    obtain ⟨k, rfl⟩ : ∃ m, k = m + 3 := ⟨k - 3, by omega⟩
    obtain rfl : i = a.length := by omega
    rw [spec_ParseHeap.l0, if_pos (by omega), decide_eq_true (by omega), spec_ParseHeap.j1, if_pos rfl, if_pos (by omega), if_pos (by omega), if_pos (by rw [Go.Lib.toList_data, p2]), spec_ParseHeap.j2, if_pos (by rfl), wrap_succ (n := a.length) (m := a.length + 1) (by omega) (by omega), List.take_length, show b.take a.length = b from by rw [hl.1, List.take_length]]
    exact specPH_roots h hP c.length 0 k (by omega) (by omega) (by omega)
  | succ d ih =>
    intro i k hi hd hk
    obtain ⟨k, rfl⟩ : ∃ m, k = m + 5 := ⟨k - 5, by omega⟩
    have hlt : i < a.length := by omega
    have hlb : i < b.length := by omega
    have ra := ga _ (rd_mem a (i : Int) (by omega) (by omega))
    have rb := gb _ (rd_mem b (i : Int) (by omega) (by omega))
    have q := p1 i hlt
    obtain ⟨z2, b0, b1⟩ := list_two q rfl
    rw [spec_ParseHeap.l0, if_pos (by omega), decide_eq_true (by omega), spec_ParseHeap.j1, if_pos rfl, if_pos (by omega), if_pos (by omega), if_neg (not_two q), spec_ParseHeap.j2, if_neg (by simp), if_neg (by simp), spec_ParseHeap.j3, if_neg (by simp), if_neg (by simp), spec_ParseHeap.j4, if_pos (by rw [z2]; rfl), if_pos (by omega), b0, read_tells (by omega)]
    simp only [Option.bind_some]
    rw [if_pos (by omega), b1, read_tells (by omega)]
    simp only [Option.bind_some]
    rw [if_pos trivial, if_pos trivial, if_pos (by rw [List.length_take]; omega), if_pos (by rw [List.length_take]; omega), wrap_succ (n := i) (m := a.length) (by omega) (by omega), show (a.take i ++ [rd a (i : Int)]) = a.take (i + 1) from by rw [rd_nat a i hlt, List.take_succ_eq_append_getElem hlt], show (b.take i ++ [rd b (i : Int)]) = b.take (i + 1) from by rw [rd_nat b i hlb, List.take_succ_eq_append_getElem hlb]]
    exact ih (i + 1) k (by omega) (by omega) (by omega)
theorem specPH_text {a b c : List Int} (h : hv a b c = true) (k : Nat) (hk : 1048600 ≤ k) : spec_ParseHeap.f k (textM a b c) = some (a, b, c, true) := by
  have hl := hv_len h
  have ht := textM_le a b c
  obtain ⟨P, e, p, l⟩ := l13Cut_tells (textM a b c) (by omega) k hk
  unfold spec_ParseHeap.f
  rw [e]
  simp only [Option.bind_some]
  exact specPH_cells h p a.length 0 k (by omega) (by omega) (by omega)
/-- Both parsers say the same of every text. -/
theorem ph_tells (s : ByteArray) (hs : s.size ≤ 1048576) : ∃ r, phOk s r ∧ ∀ k, 3200000 ≤ k → impl_ParseHeap.f k s = some r ∧ spec_ParseHeap.f k s = some r := by
  obtain ⟨r, e, g⟩ := implPH_sound s hs 3200000 (Nat.le_refl _)
  refine ⟨r, g, fun k hk => ?_⟩
  rcases g with rfl | ⟨a, b, c, rfl, h, t⟩
  · have no : ∀ a b c, hv a b c = true → textM a b c ≠ s := fun a b c h t => by
      rw [← t, implPH_text h 3200000 (by omega)] at e
      exact absurd e (by simp)
    have fl : ∀ r, phOk s r → r = ([], [], [], false) := fun r g => g.elim id (fun ⟨a, b, c, _, h, t⟩ => absurd t (no a b c h))
    obtain ⟨r1, e1, g1⟩ := implPH_sound s hs k hk
    obtain ⟨r2, e2, g2⟩ := specPH_sound s hs k (by omega)
    rw [e1, e2, fl r1 g1, fl r2 g2]
    exact ⟨rfl, rfl⟩
  · rw [← t]
    exact ⟨implPH_text h k (by omega), specPH_text h k (by omega)⟩
theorem phOk_lens {s : ByteArray} {r : List Int × List Int × List Int × Bool} (g : phOk s r) : r.1.length ≤ 8 ∧ r.2.1.length ≤ 8 ∧ r.2.2.1.length ≤ 3 := by
  rcases g with rfl | ⟨a, b, c, rfl, h, t⟩
  · simp
  · have := hv_len h
    simp only
    omega
theorem Equal_l0 (a b : List Int) (he : a.length = b.length) (hl : a.length ≤ 9223372036854775807) : ∀ (d n k : Nat), n ≤ a.length → a.length - n = d → d < k →
    slices_Equal_int_int.l0 k a b (a.length : Int) (n : Int) = some (decide (a.drop n = b.drop n)) := by
  intro d
  induction d with
  | zero =>
    intro n k hn hd hk
    obtain ⟨k, rfl⟩ : ∃ m, k = m + 1 := ⟨k - 1, by omega⟩
    rw [slices_Equal_int_int.l0, if_neg (by omega), List.drop_eq_nil_of_le (by omega), List.drop_eq_nil_of_le (by omega)]
    simp
  | succ d ih =>
    intro n k hn hd hk
    obtain ⟨k, rfl⟩ : ∃ m, k = m + 1 := ⟨k - 1, by omega⟩
    have hlt : n < a.length := by omega
    have hlt2 : n < b.length := by omega
    rw [slices_Equal_int_int.l0, if_pos (by omega), if_pos (by omega), if_pos (by omega), if_pos (by omega), drop_rd a n hlt, drop_rd b n hlt2]
    by_cases h : rd a (n : Int) = rd b (n : Int)
    · rw [if_pos h, wrap_succ hlt hl, ih (n + 1) k (by omega) (by omega) (by omega), h]
      simp
    · rw [if_neg h]
      simp [h]
theorem Equal_tells (a b : List Int) (k : Nat) (hl : a.length ≤ 9223372036854775807) (hk : a.length < k) : slices_Equal_int_int.f k a b = some (decide (a = b)) := by
  unfold slices_Equal_int_int.f
  by_cases h : a.length = b.length
  · rw [if_pos (by omega)]
    refine Eq.trans (Equal_l0 a b h hl a.length 0 k (by omega) (by omega) hk) ?_
    simp
  · rw [if_neg (by omega)]
    have : a ≠ b := fun e => h (by rw [e])
    simp [this]
theorem implHeapSame_tells (a b c a' b' c' : List Int) (k : Nat) (ha : a.length ≤ 1048576) (hb : b.length ≤ 1048576) (hc : c.length ≤ 1048576) (hk : 1048577 ≤ k) :
    impl_HeapSame.f k a b c a' b' c' = some (decide (a = a' ∧ b = b' ∧ c = c')) := by
  unfold impl_HeapSame.f
  rw [Equal_tells a a' k (by omega) (by omega)]
  simp only [Option.bind_some, decide_eq_true_eq]
  by_cases h1 : a = a'
  · rw [if_pos h1, Equal_tells b b' k (by omega) (by omega)]
    simp only [Option.bind_some, decide_eq_true_eq]
    by_cases h2 : b = b'
    · rw [if_pos h2, Equal_tells c c' k (by omega) (by omega)]
      simp [h1, h2]
    · rw [if_neg h2]; simp [h2]
  · rw [if_neg h1]; simp [h1]
theorem lawHT_j1 (more : List Int) (hb : ∀ x ∈ more, 0 ≤ x ∧ x ≤ 255) (k : Nat) (hk : 3250000 ≤ k) : laws_FnHeapText.j1 k more false = some true := by
  obtain ⟨k, rfl⟩ : ∃ m, k = m + 1 := ⟨k - 1, by omega⟩
  obtain ⟨s, e, hs⟩ := drawParseHeap_tells (code := more) hb k (by omega)
  obtain ⟨r, g, hr⟩ := ph_tells s (by omega)
  have hl := phOk_lens g
  rw [laws_FnHeapText.j1, if_neg (by simp), e]
  simp only [Option.bind_some]
  rw [(hr k (by omega)).2, (hr k (by omega)).1]
  simp only [Option.bind_some]
  rw [implHeapSame_tells _ _ _ _ _ _ k (by omega) (by omega) (by omega) (by omega)]
  simp only [Option.bind_some]
  rw [if_pos (by simp), if_pos (by simp)]
  rcases g with rfl | ⟨a, b, c, rfl, h, t⟩
  · rw [if_neg (by simp)]
  · rw [if_pos (by rfl), implFH_tells a b c k (by omega), t]
    simp
theorem pure_FnHeapText (code more : List Int) (_hl : code.length ≤ 9223372036854775807) (hb : ∀ x ∈ code, 0 ≤ x ∧ x ≤ 255) (_hm : more.length ≤ 9223372036854775807) (hb2 : ∀ x ∈ more, 0 ≤ x ∧ x ≤ 255) : ∃ k, laws_FnHeapText.f k code more = some true := by
  refine ⟨3300000, ?_⟩
  obtain ⟨k, hk⟩ : ∃ k : Nat, k = 3299999 := ⟨_, rfl⟩
  rw [show 3300000 = k + 1 from by omega]
  have out : laws_FnHeapText.j0 (k + 1) code more true = some true := by rw [laws_FnHeapText.j0, if_pos rfl]
  have go : laws_FnHeapText.j0 (k + 1) code more false = some true := by
    obtain ⟨a, b, c, e, hs⟩ := drawFormatHeap_tells (code := code) hb k (by omega)
    have ht := textM_le a b c
    obtain ⟨r, g, hr⟩ := ph_tells (textM a b c) (by omega)
    have hl := phOk_lens g
    have hj := lawHT_j1 more hb2 k (by omega)
    rw [laws_FnHeapText.j0, if_neg (by simp), e]
    simp only [Option.bind_some]
    rw [implFH_tells a b c k (by omega), specFH_tells a b c k (by omega), implHV_tells a b c k (by omega), specHV_tells a b c k (by omega)]
    simp only [Option.bind_some]
    rw [(hr k (by omega)).1]
    simp only [Option.bind_some]
    rw [if_pos trivial, if_neg (by simp)]
    by_cases h : hv a b c = true
    · have e1 := (hr 3200000 (by omega)).1
      rw [implPH_text h 3200000 (by omega)] at e1
      obtain rfl := Option.some.inj e1
      have hv1 := hv_len h
      rw [h, if_neg (by simp), if_pos rfl, implHeapSame_tells a b c a b c k (by omega) (by omega) (by omega) (by omega)]
      simp only [Option.bind_some]
      rw [decide_eq_true ⟨trivial, trivial, trivial⟩]
      exact hj
    · have fl : r = ([], [], [], false) := g.resolve_right (fun ⟨a', b', c', _, h', t⟩ => by
        have := textM_size h'
        rw [t, textM_neg h] at this
        have : (⟨#[]⟩ : ByteArray).size = 0 := rfl
        omega)
      rw [fl, Bool.eq_false_iff.2 h, if_neg (by simp), if_neg (by simp)]
      exact hj
  unfold laws_FnHeapText.f
  by_cases h0 : (code.length : Int) > 1048576
  · rw [if_pos h0]; exact out
  · rw [if_neg h0]
    by_cases h1 : (more.length : Int) > 1048576
    · rw [decide_eq_true h1]; exact out
    · rw [decide_eq_false h1]; exact go
end Go.Proofs.YtomeaapjjmaepaaDoor.A
