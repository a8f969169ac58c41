/- Plain laws on lists and numbers, for FnExactShadeRoots. No conditions beyond those stated. -/
import Derived.Test.YtkbaggfkidalfaaCLawsFnExactShadeRoots
import Derived.Test.YtkbaggfkidalfaaALawsHeldColored
import Derived.Test.YtkbaggfkidalfaaALawsMarkColored
import Derived.Test.YtkbaggfkidalfaaALawsHeldHeap
import Derived.Test.YtkbaggfkidalfaaALawsHeldIntS
import Derived.Test.YtkbaggfkidalfaaALawsMarkIntS
import Derived.Test.YtkbaggfkidalfaaPBase
import Derived.Test.YtkbaggfkidalfaaA0
import Derived.Test.YtkbaggfkidalfaaALawsMarkHeap
import Derived.Test.YtkbaggfkidalfaaALawsEqColored
import Derived.Test.YtkbaggfkidalfaaALawsEqIntS
import Derived.Test.YtkbaggfkidalfaaALawsEqHeap
import Derived.Test.YtkbaggfkidalfaaAImplShadeRoots
import Derived.Test.YtkbaggfkidalfaaAImplColoredValid
import Derived.Test.YtkbaggfkidalfaaAImplColorsOk
import Derived.Test.YtkbaggfkidalfaaAImplHeapValid
import Derived.Test.YtkbaggfkidalfaaASpecHeapValid
import Derived.Test.YtkbaggfkidalfaaASpecL1Points
import Derived.Test.YtkbaggfkidalfaaAImplFresh
import Derived.Test.YtkbaggfkidalfaaASlicesCloneIntInt
import Derived.Test.YtkbaggfkidalfaaAImplCopied
import Derived.Test.YtkbaggfkidalfaaAImplShade
import Derived.Test.YtkbaggfkidalfaaASpecShadeRoots
import Derived.Test.YtkbaggfkidalfaaASpecL3Copy
import Derived.Test.YtkbaggfkidalfaaASpecL1Copy
import Derived.Test.YtkbaggfkidalfaaASpecColoredValid
import Derived.Test.YtkbaggfkidalfaaASpecL3Shade
import Derived.Test.YtkbaggfkidalfaaALawsSzColored
import Derived.Test.YtkbaggfkidalfaaALawsSzHeap
import Derived.Test.YtkbaggfkidalfaaALawsSzIntS
import Derived.Test.YtkbaggfkidalfaaALawsToColored
import Derived.Test.YtkbaggfkidalfaaALawsToHeap
import Derived.Test.YtkbaggfkidalfaaALawsToIntS
namespace Go.Proofs.Ytkbaggfkidalfaa.A
open Go.RowKit Go.Proofs.YtkbaggfkidalfaaW.PrintWords Go.Proofs.YtkbaggfkidalfaaW.PrintLast Go.Proofs.YtkbaggfkidalfaaW.PrintMore
attribute [local go_sem] max2_int min2_int max_two min_two max_three min_three max_four min_four   -- for this text's walks alone
set_option linter.unusedVariables false
set_option linter.unusedSimpArgs false
/-- The numbers from m on. -/
def mk (m n : Nat) : List Int := (List.range n).map (fun i => ((m + i : Nat) : Int))
theorem mk_len (m n : Nat) : (mk m n).length = n := by unfold mk; simp
theorem mk_get (m n i : Nat) (h : i < n) : rd (mk m n) (i : Int) = ((m + i : Nat) : Int) := by
  rw [rd_nat _ _ (by rw [mk_len]; exact h)]; unfold mk; simp
theorem markIntS_l0 (m n : Nat) (hm : m + n ≤ 9223372036854775807) : ∀ (d i k : Nat) (x : List Int), i ≤ n → n - i = d → d < k → x.length = n → x.take i = mk m i →
    laws_markIntS.l0 k x ((m + i : Nat) : Int) (i : Int) = some (((m + n : Nat) : Int), mk m n) := by
  intro d
  induction d with
  | zero =>
    intro i k x hi hd hk hx he
    obtain ⟨k, rfl⟩ : ∃ m, k = m + 1 := ⟨k - 1, by omega⟩
    obtain rfl : i = n := by omega
    rw [laws_markIntS.l0, if_neg (by omega)]
    rw [List.take_of_length_le (by omega)] at he
    rw [he]
  | succ d ih =>
    intro i k x hi hd hk hx he
    obtain ⟨k, rfl⟩ : ∃ m, k = m + 1 := ⟨k - 1, by omega⟩
    have hlt : i < n := by omega
    have w1 : wrap64 (((m + i : Nat) : Int) + 1) = ((m + (i + 1) : Nat) : Int) := by unfold wrap64; omega
    rw [laws_markIntS.l0, if_pos (by omega), if_pos (by omega), wrap_succ hlt (by omega), w1, Int.toNat_natCast]
    refine ih (i + 1) k _ (by omega) (by omega) (by omega) (by simpa using hx) ?_
    rw [List.take_succ_eq_append_getElem (by simp; omega), List.take_set_of_le (Nat.le_refl i), he]
    unfold mk
    rw [List.range_succ, List.map_append]
    simp
theorem markIntS_tells (l : List Int) (m k : Nat) (hm : m + l.length ≤ 9223372036854775807) (hk : l.length < k) : laws_markIntS.f k l (m : Int) = some (((m + l.length : Nat) : Int), mk m l.length) := by
  unfold laws_markIntS.f
  exact markIntS_l0 m l.length hm l.length 0 k l (by omega) (by omega) hk rfl (by simp [mk])
theorem heldIntS_l0 (m n : Nat) (hm : m + n ≤ 9223372036854775807) : ∀ (d i k : Nat), i ≤ n → n - i = d → d < k →
    laws_heldIntS.l0 k (mk m n) ((m + i : Nat) : Int) (i : Int) = some ((m + n : Nat) : Int) := by
  intro d
  induction d with
  | zero =>
    intro i k hi hd hk
    obtain ⟨k, rfl⟩ : ∃ m, k = m + 1 := ⟨k - 1, by omega⟩
    obtain rfl : i = n := by omega
    rw [laws_heldIntS.l0, if_neg (by rw [mk_len]; omega)]
  | succ d ih =>
    intro i k hi hd hk
    obtain ⟨k, rfl⟩ : ∃ m, k = m + 1 := ⟨k - 1, by omega⟩
    have hlt : i < n := by omega
    have w1 : wrap64 (((m + i : Nat) : Int) + 1) = ((m + (i + 1) : Nat) : Int) := by unfold wrap64; omega
    rw [laws_heldIntS.l0, if_pos (by rw [mk_len]; omega), if_pos (by omega), mk_get m n i hlt, if_pos rfl, wrap_succ hlt (by omega), w1]
    exact ih (i + 1) k (by omega) (by omega) (by omega)
theorem heldIntS_tells (m n k : Nat) (hm : m + n ≤ 9223372036854775807) (hk : n < k) : laws_heldIntS.f k (mk m n) (m : Int) = some ((m + n : Nat) : Int) := by
  unfold laws_heldIntS.f
  exact heldIntS_l0 m n hm n 0 k (by omega) (by omega) hk
theorem heldHeap_tells (a b c m k : Nat) (hm : m ≤ 10000000) (ha : a ≤ 1048576) (hb : b ≤ 1048576) (hc : c ≤ 1048576) (hk : 1048577 ≤ k) :
    laws_heldHeap.f k (mk m a) (mk (m + a) b) (mk (m + a + b) c) (m : Int) = some ((m + a + b + c : Nat) : Int) := by
  unfold laws_heldHeap.f
  rw [heldIntS_tells m a k (by omega) (by omega)]
  simp only [Option.bind_some]
  rw [if_neg (by omega), heldIntS_tells (m + a) b k (by omega) (by omega)]
  simp only [Option.bind_some]
  rw [if_neg (by omega), heldIntS_tells (m + a + b) c k (by omega) (by omega)]
  simp only [Option.bind_some]
  rw [if_neg (by omega)]
theorem markHeap_tells (a b c : List Int) (m k : Nat) (hm : m ≤ 10000000) (ha : a.length ≤ 1048576) (hb : b.length ≤ 1048576) (hc : c.length ≤ 1048576) (hk : 1048577 ≤ k) :
    laws_markHeap.f k a b c (m : Int) = some (((m + a.length + b.length + c.length : Nat) : Int), mk m a.length, mk (m + a.length) b.length, mk (m + a.length + b.length) c.length) := by
  unfold laws_markHeap.f
  rw [markIntS_tells a m k (by omega) (by omega)]
  simp only [Option.bind_some]
  rw [markIntS_tells b (m + a.length) k (by omega) (by omega)]
  simp only [Option.bind_some]
  rw [markIntS_tells c (m + a.length + b.length) k (by omega) (by omega)]
  rfl
theorem markColored_tells (a b c e : List Int) (m k : Nat) (hm : m ≤ 10000000) (ha : a.length ≤ 1048576) (hb : b.length ≤ 1048576) (hc : c.length ≤ 1048576) (he : e.length ≤ 1048576) (hk : 1048577 ≤ k) :
    laws_markColored.f k a b c e (m : Int) = some (((m + a.length + b.length + c.length + e.length : Nat) : Int), mk m a.length, mk (m + a.length) b.length, mk (m + a.length + b.length) c.length, mk (m + a.length + b.length + c.length) e.length) := by
  unfold laws_markColored.f
  rw [markHeap_tells a b c m k hm ha hb hc hk]
  simp only [Option.bind_some]
  rw [markIntS_tells e (m + a.length + b.length + c.length) k (by omega) (by omega)]
  rfl
theorem heldColored_tells (a b c e m k : Nat) (hm : m ≤ 10000000) (ha : a ≤ 1048576) (hb : b ≤ 1048576) (hc : c ≤ 1048576) (he : e ≤ 1048576) (hk : 1048577 ≤ k) :
    laws_heldColored.f k (mk m a) (mk (m + a) b) (mk (m + a + b) c) (mk (m + a + b + c) e) (m : Int) = some ((m + a + b + c + e : Nat) : Int) := by
  unfold laws_heldColored.f
  rw [heldHeap_tells a b c m k hm ha hb hc hk]
  simp only [Option.bind_some]
  rw [if_neg (by omega), heldIntS_tells (m + a + b + c) e k (by omega) (by omega)]
  simp only [Option.bind_some]
  rw [if_neg (by omega)]
theorem eqIntS_l0 (a b : List Int) (he : a.length = b.length) (hl : a.length ≤ 9223372036854775807) : ∀ (d n k : Nat), n ≤ a.length → a.length - n = d → d < k →
    laws_eqIntS.l0 k a b (n : Int) = some (decide (a.drop n = b.drop n)) := by
  intro d
  induction d with
  | zero =>
    intro n k hn hd hk
    obtain ⟨k, rfl⟩ : ∃ m, k = m + 1 := ⟨k - 1, by omega⟩
    rw [laws_eqIntS.l0, if_neg (by omega), List.drop_eq_nil_of_le (by omega), List.drop_eq_nil_of_le (by omega)]
    simp
  | succ d ih =>
    intro n k hn hd hk
    obtain ⟨k, rfl⟩ : ∃ m, k = m + 1 := ⟨k - 1, by omega⟩
    have hlt : n < a.length := by omega
    have hlt2 : n < b.length := by omega
    rw [laws_eqIntS.l0, if_pos (by omega), if_pos (by omega), if_pos (by omega), drop_rd a n hlt, drop_rd b n hlt2]
    by_cases h : rd a (n : Int) = rd b (n : Int)
    · rw [if_pos h, wrap_succ hlt hl, ih (n + 1) k (by omega) (by omega) (by omega), h]
      simp
    · rw [if_neg h]
      simp [h]
theorem eqIntS_tells (a b : List Int) (k : Nat) (hl : a.length ≤ 9223372036854775807) (hk : a.length < k) : laws_eqIntS.f k a b = some (decide (a = b)) := by
  unfold laws_eqIntS.f
  by_cases h : a.length = b.length
  · rw [if_pos (by omega)]
    refine Eq.trans (eqIntS_l0 a b h hl a.length 0 k (by omega) (by omega) hk) ?_
    simp
  · rw [if_neg (by omega)]
    have : a ≠ b := fun e => h (by rw [e])
    simp [this]
theorem eqHeap_tells (a b c a' b' c' : List Int) (k : Nat) (ha : a.length ≤ 1048576) (hb : b.length ≤ 1048576) (hc : c.length ≤ 1048576) (hk : 1048577 ≤ k) :
    laws_eqHeap.f k a b c a' b' c' = some (decide (a = a' ∧ b = b' ∧ c = c')) := by
  unfold laws_eqHeap.f
  rw [eqIntS_tells a a' k (by omega) (by omega)]
  simp only [Option.bind_some, decide_eq_true_eq]
  by_cases h1 : a = a'
  · rw [if_pos h1, eqIntS_tells b b' k (by omega) (by omega)]
    simp only [Option.bind_some, decide_eq_true_eq]
    by_cases h2 : b = b'
    · rw [if_pos h2, eqIntS_tells c c' k (by omega) (by omega)]
      by_cases h3 : c = c' <;> simp [h1, h2, h3]
    · rw [if_neg h2]; simp [h2]
  · rw [if_neg h1]; simp [h1]
theorem eqColored_tells (a b c e a' b' c' e' : List Int) (k : Nat) (ha : a.length ≤ 1048576) (hb : b.length ≤ 1048576) (hc : c.length ≤ 1048576) (he : e.length ≤ 1048576) (hk : 1048577 ≤ k) :
    laws_eqColored.f k a b c e a' b' c' e' = some (decide (a = a' ∧ b = b' ∧ c = c' ∧ e = e')) := by
  unfold laws_eqColored.f
  rw [eqHeap_tells a b c a' b' c' k ha hb hc hk]
  simp only [Option.bind_some, decide_eq_true_eq]
  by_cases h1 : a = a' ∧ b = b' ∧ c = c'
  · rw [if_pos h1, eqIntS_tells e e' k (by omega) (by omega)]
    obtain ⟨rfl, rfl, rfl⟩ := h1
    by_cases h3 : e = e' <;> simp [h3]
  · rw [if_neg h1]
    simp only [Option.some.injEq]
    exact (decide_eq_false (fun h => h1 ⟨h.1, h.2.1, h.2.2.1⟩)).symm
/-- A pointer of a heap of n cells. -/
def okp (n : Nat) (x : Int) : Bool := decide (-1 ≤ x ∧ x < (n : Int))
def hv (a b c : List Int) : Bool := decide (a.length = b.length ∧ 1 ≤ a.length ∧ a.length ≤ 8 ∧ 1 ≤ c.length ∧ c.length ≤ 3) && (a.all (okp a.length) && (b.all (okp a.length) && c.all (okp a.length)))
theorem hv_len {a b c : List Int} (h : hv a b c = true) : a.length = b.length ∧ 1 ≤ a.length ∧ a.length ≤ 8 ∧ 1 ≤ c.length ∧ c.length ≤ 3 := by
  unfold hv at h
  rw [Bool.and_eq_true] at h
  exact of_decide_eq_true h.1
theorem okp_iff {n : Nat} {x : Int} : okp n x = true ↔ -1 ≤ x ∧ x < (n : Int) := by unfold okp; exact decide_eq_true_iff
theorem hv_iff {a b c : List Int} : hv a b c = true ↔ (a.length = b.length ∧ 1 ≤ a.length ∧ a.length ≤ 8 ∧ 1 ≤ c.length ∧ c.length ≤ 3) ∧ (∀ x ∈ a, -1 ≤ x ∧ x < (a.length : Int)) ∧ (∀ x ∈ b, -1 ≤ x ∧ x < (a.length : Int)) ∧ (∀ x ∈ c, -1 ≤ x ∧ x < (a.length : Int)) := by
  unfold hv
  simp only [Bool.and_eq_true, decide_eq_true_eq, List.all_eq_true, okp_iff]
theorem all_drop_cons (p : Int → Bool) (l : List Int) (n : Nat) (h : n < l.length) : (l.drop n).all p = (p (rd l (n : Int)) && (l.drop (n + 1)).all p) := by
  rw [drop_rd l n h, List.all_cons]
theorem all_drop_nil (p : Int → Bool) (l : List Int) (n : Nat) (h : l.length ≤ n) : (l.drop n).all p = true := by
  rw [List.drop_eq_nil_of_le h, List.all_nil]
/-- A cell of a valid heap. -/
def cellM (a b c : List Int) (x : Int) : Bool := hv a b c && decide (0 ≤ x ∧ x < (a.length : Int))
theorem cellM_iff {a b c : List Int} {x : Int} : cellM a b c x = true ↔ hv a b c = true ∧ 0 ≤ x ∧ x < (a.length : Int) := by
  unfold cellM; simp
def okc (x : Int) : Bool := decide (0 ≤ x ∧ x ≤ 2)
def cv (a b c e : List Int) : Bool := hv a b c && (e.all okc && decide (e.length = a.length))
theorem okc_iff {x : Int} : okc x = true ↔ 0 ≤ x ∧ x ≤ 2 := by unfold okc; exact decide_eq_true_iff
theorem cv_iff {a b c e : List Int} : cv a b c e = true ↔ hv a b c = true ∧ (∀ x ∈ e, 0 ≤ x ∧ x ≤ 2) ∧ e.length = a.length := by
  unfold cv
  simp only [Bool.and_eq_true, decide_eq_true_eq, List.all_eq_true, okc_iff]
/-- Colors behind the shading of a cell (or of none). -/
def sh (e : List Int) (p : Int) : List Int := if p ≠ -1 ∧ rd e p = 0 then e.set p.toNat 1 else e
theorem sh_len (e : List Int) (p : Int) : (sh e p).length = e.length := by unfold sh; split <;> simp
theorem sh_rd {e : List Int} {p q : Int} (hp : p = -1 ∨ (0 ≤ p ∧ p < (e.length : Int))) (hq : 0 ≤ q) : rd (sh e p) q = if q = p ∧ rd e p = 0 then 1 else rd e q := by
  unfold sh
  by_cases h : p ≠ -1 ∧ rd e p = 0
  · obtain ⟨h0, h1⟩ := hp.resolve_left h.1
    rw [if_pos h]
    by_cases g : q = p
    · subst g; rw [rd_set_eq _ _ _ h0 h1, if_pos ⟨rfl, h.2⟩]
    · rw [rd_set_ne _ _ _ _ h0 hq (fun k => g k.symm), if_neg (fun k => g k.1)]
  · rw [if_neg h, if_neg (fun k => h ⟨by omega, k.2⟩)]
theorem sh_col {e : List Int} (h : ∀ x ∈ e, 0 ≤ x ∧ x ≤ 2) (p : Int) : ∀ x ∈ sh e p, 0 ≤ x ∧ x ≤ 2 := by
  unfold sh
  split
  · intro x hx
    rcases List.mem_or_eq_of_mem_set hx with g | rfl
    · exact h x g
    · omega
  · exact h
theorem sh_pos {e : List Int} {p q : Int} (hp : p = -1 ∨ (0 ≤ p ∧ p < (e.length : Int))) (hq : 0 ≤ q) (h : 1 ≤ rd e q) : rd (sh e p) q = rd e q := by
  rw [sh_rd hp hq, if_neg (fun k => by rw [k.1] at h; omega)]
theorem sh_self {e : List Int} {p : Int} (hp : 0 ≤ p ∧ p < (e.length : Int)) (h : 0 ≤ rd e p) : 1 ≤ rd (sh e p) p := by
  rw [sh_rd (Or.inr hp) hp.1]
  by_cases g : rd e p = 0
  · rw [if_pos ⟨rfl, g⟩]; omega
  · rw [if_neg (fun k => g k.2)]; omega
theorem sh_twice {e : List Int} {p : Int} (hp : p = -1 ∨ (0 ≤ p ∧ p < (e.length : Int))) : sh (sh e p) p = sh e p := by
  by_cases h : p ≠ -1 ∧ rd e p = 0
  · have h2 : ¬ (p ≠ -1 ∧ rd (sh e p) p = 0) := fun k => by
      rw [sh_rd hp (by omega), if_pos ⟨rfl, h.2⟩] at k; omega
    rw [show sh (sh e p) p = sh e p from by rw [sh, if_neg h2]]
  · rw [show sh e p = e from by unfold sh; rw [if_neg h]]; unfold sh; rw [if_neg h]
def shAll (c e : List Int) : List Int := c.foldl sh e
theorem shAll_len : ∀ (c e : List Int), (shAll c e).length = e.length
  | [], _ => rfl
  | p :: c, e => (shAll_len c (sh e p)).trans (sh_len e p)
theorem shAll_col : ∀ (c e : List Int), (∀ x ∈ e, 0 ≤ x ∧ x ≤ 2) → ∀ x ∈ shAll c e, 0 ≤ x ∧ x ≤ 2
  | [], _, h => h
  | p :: c, e, h => shAll_col c (sh e p) (sh_col h p)
theorem rd_col {e : List Int} (h : ∀ x ∈ e, 0 ≤ x ∧ x ≤ 2) {q : Int} (h0 : 0 ≤ q) (h1 : q < (e.length : Int)) : 0 ≤ rd e q ∧ rd e q ≤ 2 := h _ (rd_mem e q h0 h1)
/-- What is not white stays as it is. -/
theorem shAll_pos {n : Nat} : ∀ (c e : List Int), e.length = n → (∀ x ∈ c, -1 ≤ x ∧ x < (n : Int)) → ∀ {q : Int}, 0 ≤ q → 1 ≤ rd e q → rd (shAll c e) q = rd e q
  | [], _, _, _, _, _, _ => rfl
  | p :: c, e, hn, hc, q, hq, h => by
    have hp : p = -1 ∨ (0 ≤ p ∧ p < (e.length : Int)) := by have := hc p (by simp); omega
    have e1 := sh_pos hp hq h
    exact (shAll_pos c (sh e p) ((sh_len e p).trans hn) (fun x hx => hc x (by simp [hx])) hq (by omega)).trans e1
/-- A cell behind the shading of many: gray if it was white and is one of them. -/
theorem shAll_rd {n : Nat} : ∀ (c e : List Int), e.length = n → (∀ x ∈ c, -1 ≤ x ∧ x < (n : Int)) → ∀ {q : Int}, 0 ≤ q → rd (shAll c e) q = if q ∈ c ∧ rd e q = 0 then 1 else rd e q
  | [], e, _, _, q, _ => by rw [if_neg (fun k => absurd k.1 (by simp))]; rfl
  | p :: c, e, hn, hc, q, hq => by
    have hp : p = -1 ∨ (0 ≤ p ∧ p < (e.length : Int)) := by have := hc p (by simp); omega
    have ih := shAll_rd c (sh e p) ((sh_len e p).trans hn) (fun x hx => hc x (by simp [hx])) hq
    have r := sh_rd hp hq
    show rd (shAll c (sh e p)) q = _
    rw [ih]
    by_cases g : q = p
    · by_cases z : rd e q = 0
      · have r1 : rd (sh e p) q = 1 := by rw [r, if_pos ⟨g, by rw [← g]; exact z⟩]
        rw [r1, if_neg (fun k => absurd k.2 (by omega)), if_pos ⟨by simp [g], z⟩]
      · have r1 : rd (sh e p) q = rd e q := by rw [r, if_neg (fun k => z (by rw [g]; exact k.2))]
        rw [r1, if_neg (fun k => z k.2), if_neg (fun k => z k.2)]
    · have r1 : rd (sh e p) q = rd e q := by rw [r, if_neg (fun k => g k.1)]
      rw [r1]
      by_cases z : q ∈ c ∧ rd e q = 0
      · rw [if_pos z, if_pos ⟨by simp [z.1], z.2⟩]
      · rw [if_neg z, if_neg (fun k => z ⟨(List.mem_cons.1 k.1).resolve_left g, k.2⟩)]
def scM (a b c e : List Int) (x : Int) : List Int × List Int × List Int × List Int × Bool := if cv a b c e = true ∧ (0 ≤ x ∧ x < (a.length : Int)) then (a, b, c, sh e x, true) else ([], [], [], [], false)
def srM (a b c e : List Int) : List Int × List Int × List Int × List Int × Bool := if cv a b c e = true then (a, b, c, shAll c e, true) else ([], [], [], [], false)
theorem cv_lens {a b c e : List Int} (h : cv a b c e = true) : a.length = b.length ∧ 1 ≤ a.length ∧ a.length ≤ 8 ∧ 1 ≤ c.length ∧ c.length ≤ 3 ∧ e.length = a.length := by
  obtain ⟨h1, _, h3⟩ := cv_iff.1 h
  have := hv_len h1
  omega
theorem cv_sh {a b c e : List Int} (h : cv a b c e = true) (p : Int) : cv a b c (sh e p) = true := by
  obtain ⟨h1, h2, h3⟩ := cv_iff.1 h
  exact cv_iff.2 ⟨h1, sh_col h2 p, (sh_len e p).trans h3⟩
theorem cv_shAll {a b c e : List Int} (h : cv a b c e = true) (l : List Int) : cv a b c (shAll l e) = true := by
  obtain ⟨h1, h2, h3⟩ := cv_iff.1 h
  exact cv_iff.2 ⟨h1, shAll_col l e h2, (shAll_len l e).trans h3⟩
theorem scM_lens (a b c e : List Int) (x : Int) : (scM a b c e x).1.length ≤ 8 ∧ (scM a b c e x).2.1.length ≤ 8 ∧ (scM a b c e x).2.2.1.length ≤ 3 ∧ (scM a b c e x).2.2.2.1.length ≤ 8 := by
  unfold scM
  by_cases h : cv a b c e = true ∧ (0 ≤ x ∧ x < (a.length : Int))
  · have := cv_lens h.1
    rw [if_pos h]; simp [sh_len]; omega
  · rw [if_neg h]; simp
theorem srM_lens (a b c e : List Int) : (srM a b c e).1.length ≤ 8 ∧ (srM a b c e).2.1.length ≤ 8 ∧ (srM a b c e).2.2.1.length ≤ 3 ∧ (srM a b c e).2.2.2.1.length ≤ 8 := by
  unfold srM
  by_cases h : cv a b c e = true
  · have := cv_lens h
    rw [if_pos h]; simp [shAll_len]; omega
  · rw [if_neg h]; simp
/-- How many are not -1. -/
def cnt (l : List Int) : Nat := l.countP (fun x => decide (x ≠ -1))
def cpM (a b c : List Int) : Int := if hv a b c = true then ((cnt (a ++ b ++ c) : Nat) : Int) else 0
theorem cnt_drop (l : List Int) (n : Nat) (h : n < l.length) : cnt (l.drop n) = cnt (l.drop (n + 1)) + (if rd l (n : Int) = -1 then 0 else 1) := by
  unfold cnt
  rw [drop_rd l n h, List.countP_cons]
  by_cases h : rd l (n : Int) = -1 <;> simp [h]
theorem cnt_nil (l : List Int) (n : Nat) (h : l.length ≤ n) : cnt (l.drop n) = 0 := by rw [List.drop_eq_nil_of_le h]; rfl
theorem cnt_le (l : List Int) : cnt l ≤ l.length := List.countP_le_length
/-- How many numbers are negative. -/
def negs : List Int → Nat
  | [] => 0
  | x :: l => (if x < 0 then 1 else 0) + negs l
theorem negs_rep (n : Nat) : negs (List.replicate n (-1)) = n := by
  induction n with
  | zero => rfl
  | succ n ih => rw [List.replicate_succ, negs, ih, if_pos (by omega)]; omega
theorem negs_set : ∀ (l : List Int) (i : Nat) (v : Int), i < l.length → l.getD i 0 < 0 → 0 ≤ v → negs (l.set i v) + 1 = negs l
  | [], i, v, h, _, _ => absurd h (by simp)
  | x :: l, 0, v, h, h2, h3 => by
    have h2' : x < 0 := h2
    rw [List.set_cons_zero, negs, negs, if_neg (by omega), if_pos h2']; omega
  | x :: l, i + 1, v, h, h2, h3 => by
    have := negs_set l i v (by simpa using h) (by simpa using h2) h3
    rw [List.set_cons_succ, negs, negs]; omega
/-- A pointer is met: the cells' distances, the cells met so far. -/
def bm (s : List Int × List Int) (p far : Int) : List Int × List Int := if p ≠ -1 ∧ rd s.1 p < 0 then (s.1.set p.toNat far, s.2 ++ [p]) else s
def bstep (a b : List Int) (s : List Int × List Int) (i : Int) : List Int × List Int :=
  bm (bm s (rd a (rd s.2 i)) (rd s.1 (rd s.2 i) + 1)) (rd b (rd s.2 i)) (rd s.1 (rd s.2 i) + 1)
def broots (c : List Int) (s : List Int × List Int) : List Int × List Int := c.foldl (fun s p => bm s p 1) s
def bloop (a b : List Int) : Nat → Nat → List Int × List Int → List Int × List Int
  | 0, _, s => s
  | m + 1, i, s => if i < s.2.length then bloop a b m (i + 1) (bstep a b s (i : Int)) else s
def bstart (n : Nat) : List Int × List Int := (List.replicate n (-1), [])
/-- The distances of all cells from some cells, or -1. -/
def distM (a b c : List Int) : List Int := (bloop a b (a.length + 1) 0 (broots c (bstart a.length))).1
structure Binv (n : Nat) (s : List Int × List Int) : Prop where
  len : s.1.length = n
  op : ∀ x ∈ s.2, 0 ≤ x ∧ x < (n : Int) ∧ 1 ≤ rd s.1 x
  val : ∀ x : Int, 0 ≤ x → x < (n : Int) → rd s.1 x = -1 ∨ (1 ≤ rd s.1 x ∧ rd s.1 x ≤ (s.2.length : Int))
  cnt : s.2.length + negs s.1 = n
theorem Binv.le {n : Nat} {s : List Int × List Int} (h : Binv n s) : s.2.length ≤ n := by have := h.cnt; omega
theorem rd_rep (n : Nat) (v x : Int) (h0 : 0 ≤ x) (h : x < (n : Int)) : rd (List.replicate n v) x = v := by
  unfold rd; rw [List.getD_eq_getElem?_getD, List.getElem?_replicate, if_pos (by omega)]; rfl
theorem bstart_inv (n : Nat) : Binv n (bstart n) := by
  refine ⟨by simp [bstart], fun x hx => absurd hx (by simp [bstart]), fun x h0 h1 => Or.inl ?_, by simp [bstart, negs_rep]⟩
  exact rd_rep n (-1) x h0 h1
theorem bm_inv {n : Nat} {s : List Int × List Int} (h : Binv n s) {p far : Int} (hp : p = -1 ∨ (0 ≤ p ∧ p < (n : Int))) (h1 : 1 ≤ far) (h2 : far ≤ (s.2.length : Int) + 1) : Binv n (bm s p far) := by
  unfold bm
  by_cases c : p ≠ -1 ∧ rd s.1 p < 0
  · rw [if_pos c]
    obtain ⟨hp0, hp1⟩ : 0 ≤ p ∧ p < (n : Int) := hp.resolve_left c.1
    have hl := h.len
    refine ⟨by simp [hl], fun x hx => ?_, fun x h0 hx => ?_, ?_⟩
    · rcases List.mem_append.1 hx with hx | hx
      · obtain ⟨a0, a1, a2⟩ := h.op x hx
        refine ⟨a0, a1, ?_⟩
        show 1 ≤ rd (s.1.set p.toNat far) x
        by_cases e : p = x
        · subst e; rw [rd_set_eq _ _ _ a0 (by omega)]; exact h1
        · rw [rd_set_ne _ _ _ _ hp0 a0 e]; exact a2
      · obtain rfl : x = p := by simpa using hx
        refine ⟨hp0, hp1, ?_⟩
        show 1 ≤ rd (s.1.set x.toNat far) x
        rw [rd_set_eq _ _ _ hp0 (by omega)]; exact h1
    · show rd (s.1.set p.toNat far) x = -1 ∨ (1 ≤ rd (s.1.set p.toNat far) x ∧ rd (s.1.set p.toNat far) x ≤ ((s.2 ++ [p]).length : Int))
      have el : ((s.2 ++ [p]).length : Int) = (s.2.length : Int) + 1 := by simp
      rw [el]
      by_cases e : p = x
      · subst e; rw [rd_set_eq _ _ _ h0 (by omega)]; exact Or.inr ⟨h1, h2⟩
      · rw [rd_set_ne _ _ _ _ hp0 h0 e]
        rcases h.val x h0 hx with v | v
        · exact Or.inl v
        · exact Or.inr ⟨v.1, by omega⟩
    · show (s.2 ++ [p]).length + negs (s.1.set p.toNat far) = n
      have := negs_set s.1 p.toNat far (by omega) c.2 (by omega)
      have := h.cnt
      simp; omega
  · rw [if_neg c]; exact h
theorem bm_keep {n : Nat} {s : List Int × List Int} (h : Binv n s) {p far : Int} (hp : p = -1 ∨ (0 ≤ p ∧ p < (n : Int))) {x : Int} (h0 : 0 ≤ x) (hx : 1 ≤ rd s.1 x) : rd (bm s p far).1 x = rd s.1 x := by
  unfold bm
  by_cases c : p ≠ -1 ∧ rd s.1 p < 0
  · rw [if_pos c]
    obtain ⟨hp0, hp1⟩ : 0 ≤ p ∧ p < (n : Int) := hp.resolve_left c.1
    exact rd_set_ne _ _ _ _ hp0 h0 (fun e => by subst e; omega)
  · rw [if_neg c]
theorem bm_len (s : List Int × List Int) (p far : Int) : s.2.length ≤ (bm s p far).2.length := by unfold bm; split <;> simp
theorem bm_op (s : List Int × List Int) (p far : Int) (i : Int) (h0 : 0 ≤ i) (h : i < (s.2.length : Int)) : rd (bm s p far).2 i = rd s.2 i := by
  unfold bm
  split
  · exact rd_app _ _ _ h0 h
  · rfl
theorem okp_ptr {n : Nat} {l : List Int} (h : ∀ x ∈ l, -1 ≤ x ∧ x < (n : Int)) {i : Int} (h0 : 0 ≤ i) (h1 : i < (l.length : Int)) : rd l i = -1 ∨ (0 ≤ rd l i ∧ rd l i < (n : Int)) := by
  have := h _ (rd_mem l i h0 h1); omega
theorem bstep_inv {n : Nat} {a b : List Int} (ha : a.length = n) (hb : b.length = n) (ga : ∀ x ∈ a, -1 ≤ x ∧ x < (n : Int)) (gb : ∀ x ∈ b, -1 ≤ x ∧ x < (n : Int)) {s : List Int × List Int} (h : Binv n s) {i : Int} (h0 : 0 ≤ i) (h1 : i < (s.2.length : Int)) : Binv n (bstep a b s i) := by
  have hc := h.op _ (rd_mem s.2 i h0 h1)
  have hv : 1 ≤ rd s.1 (rd s.2 i) ∧ rd s.1 (rd s.2 i) ≤ (s.2.length : Int) := by
    rcases h.val _ hc.1 hc.2.1 with v | v
    · omega
    · exact v
  have i1 := bm_inv h (p := rd a (rd s.2 i)) (far := rd s.1 (rd s.2 i) + 1) (okp_ptr ga hc.1 (by omega)) (by omega) (by omega)
  exact bm_inv i1 (okp_ptr gb hc.1 (by omega)) (by omega) (by have := bm_len s (rd a (rd s.2 i)) (rd s.1 (rd s.2 i) + 1); omega)
theorem bstep_len (a b : List Int) (s : List Int × List Int) (i : Int) : s.2.length ≤ (bstep a b s i).2.length := Nat.le_trans (bm_len _ _ _) (bm_len _ _ _)
theorem broots_inv {n : Nat} : ∀ (c : List Int) (s : List Int × List Int), (∀ x ∈ c, -1 ≤ x ∧ x < (n : Int)) → Binv n s → Binv n (broots c s)
  | [], s, _, h => h
  | p :: c, s, hc, h => broots_inv c (bm s p 1) (fun x hx => hc x (by simp [hx])) (bm_inv h (by have := hc p (by simp); omega) (by omega) (by omega))
theorem bloop_inv {n : Nat} {a b : List Int} (ha : a.length = n) (hb : b.length = n) (ga : ∀ x ∈ a, -1 ≤ x ∧ x < (n : Int)) (gb : ∀ x ∈ b, -1 ≤ x ∧ x < (n : Int)) : ∀ (m i : Nat) (s : List Int × List Int), Binv n s → Binv n (bloop a b m i s)
  | 0, _, _, h => h
  | m + 1, i, s, h => by
    rw [bloop]
    split
    · exact bloop_inv ha hb ga gb m (i + 1) _ (bstep_inv ha hb ga gb h (by omega) (by omega))
    · exact h
theorem distM_inv {a b c : List Int} (hb : b.length = a.length) (ga : ∀ x ∈ a, -1 ≤ x ∧ x < (a.length : Int)) (gb : ∀ x ∈ b, -1 ≤ x ∧ x < (a.length : Int)) (gc : ∀ x ∈ c, -1 ≤ x ∧ x < (a.length : Int)) : Binv a.length (bloop a b (a.length + 1) 0 (broots c (bstart a.length))) :=
  bloop_inv rfl hb ga gb _ _ _ (broots_inv c _ gc (bstart_inv _))
/-- A reached cell that is no start has one before it. -/
def Bpred (n : Nat) (a b : List Int) (s : List Int × List Int) : Prop := ∀ x : Int, 0 ≤ x → x < (n : Int) → 1 < rd s.1 x → ∃ c : Int, 0 ≤ c ∧ c < (n : Int) ∧ rd s.1 c = rd s.1 x - 1 ∧ (rd a c = x ∨ rd b c = x)
theorem bm_pred {n : Nat} {a b : List Int} {s : List Int × List Int} (h : Binv n s) (g : Bpred n a b s) {p far : Int} (hp : p = -1 ∨ (0 ≤ p ∧ p < (n : Int))) (hf : far = 1 ∨ ∃ c : Int, 0 ≤ c ∧ c < (n : Int) ∧ 1 ≤ rd s.1 c ∧ rd s.1 c = far - 1 ∧ (rd a c = p ∨ rd b c = p)) : Bpred n a b (bm s p far) := by
  intro x h0 h1 h2
  have key : ∀ c : Int, 0 ≤ c → 1 ≤ rd s.1 c → rd (bm s p far).1 c = rd s.1 c := fun c c0 c1 => bm_keep h hp c0 c1
  by_cases hx : 1 ≤ rd s.1 x
  · rw [key x h0 hx] at h2
    obtain ⟨c, c0, c1, c2, c3⟩ := g x h0 h1 h2
    exact ⟨c, c0, c1, by rw [key c c0 (by omega), key x h0 hx]; exact c2, c3⟩
  · unfold bm at h2
    by_cases cc : p ≠ -1 ∧ rd s.1 p < 0
    · rw [if_pos cc] at h2
      have hl := h.len
      obtain ⟨hp0, hp1⟩ := hp.resolve_left cc.1
      have h2' : 1 < rd (s.1.set p.toNat far) x := h2
      by_cases e : p = x
      · subst e
        rw [rd_set_eq _ _ _ h0 (by omega)] at h2'
        rcases hf with rfl | ⟨c, c0, c1, c2, c3, c4⟩
        · omega
        · refine ⟨c, c0, c1, ?_, c4⟩
          rw [key c c0 c2]
          unfold bm
          rw [if_pos cc]
          show rd s.1 c = rd (s.1.set p.toNat far) p - 1
          rw [rd_set_eq _ _ _ h0 (by omega)]; exact c3
      · rw [rd_set_ne _ _ _ _ hp0 h0 e] at h2'; omega
    · rw [if_neg cc] at h2; omega
theorem bstart_pred (n : Nat) (a b : List Int) : Bpred n a b (bstart n) := by
  intro x h0 h1 h2
  have : rd (bstart n).1 x = -1 := rd_rep n (-1) x h0 h1
  omega
theorem broots_pred {n : Nat} {a b : List Int} : ∀ (c : List Int) (s : List Int × List Int), (∀ x ∈ c, -1 ≤ x ∧ x < (n : Int)) → Binv n s → Bpred n a b s → Bpred n a b (broots c s)
  | [], s, _, _, g => g
  | p :: c, s, hc, h, g => broots_pred c (bm s p 1) (fun x hx => hc x (by simp [hx])) (bm_inv h (by have := hc p (by simp); omega) (by omega) (by omega)) (bm_pred h g (by have := hc p (by simp); omega) (Or.inl rfl))
theorem bstep_pred {n : Nat} {a b : List Int} (ha : a.length = n) (hb : b.length = n) (ga : ∀ x ∈ a, -1 ≤ x ∧ x < (n : Int)) (gb : ∀ x ∈ b, -1 ≤ x ∧ x < (n : Int)) {s : List Int × List Int} (h : Binv n s) (g : Bpred n a b s) {i : Int} (h0 : 0 ≤ i) (h1 : i < (s.2.length : Int)) : Bpred n a b (bstep a b s i) := by
  have hc := h.op _ (rd_mem s.2 i h0 h1)
  have hv : 1 ≤ rd s.1 (rd s.2 i) ∧ rd s.1 (rd s.2 i) ≤ (s.2.length : Int) := by
    rcases h.val _ hc.1 hc.2.1 with v | v
    · omega
    · exact v
  have pa := okp_ptr ga hc.1 (by omega)
  have pb := okp_ptr gb hc.1 (by omega)
  have i1 := bm_inv h (p := rd a (rd s.2 i)) (far := rd s.1 (rd s.2 i) + 1) pa (by omega) (by omega)
  have k1 := bm_keep h (p := rd a (rd s.2 i)) (far := rd s.1 (rd s.2 i) + 1) pa hc.1 hc.2.2
  have g1 := bm_pred h g (p := rd a (rd s.2 i)) (far := rd s.1 (rd s.2 i) + 1) pa (Or.inr ⟨rd s.2 i, hc.1, hc.2.1, hc.2.2, by omega, Or.inl rfl⟩)
  exact bm_pred i1 g1 pb (Or.inr ⟨rd s.2 i, hc.1, hc.2.1, by omega, by omega, Or.inr rfl⟩)
theorem bloop_pred {n : Nat} {a b : List Int} (ha : a.length = n) (hb : b.length = n) (ga : ∀ x ∈ a, -1 ≤ x ∧ x < (n : Int)) (gb : ∀ x ∈ b, -1 ≤ x ∧ x < (n : Int)) : ∀ (m i : Nat) (s : List Int × List Int), Binv n s → Bpred n a b s → Bpred n a b (bloop a b m i s)
  | 0, _, _, _, g => g
  | m + 1, i, s, h, g => by
    rw [bloop]
    split
    · exact bloop_pred ha hb ga gb m (i + 1) _ (bstep_inv ha hb ga gb h (by omega) (by omega)) (bstep_pred ha hb ga gb h g (by omega) (by omega))
    · exact g
theorem distM_pred {a b c : List Int} (hb : b.length = a.length) (ga : ∀ x ∈ a, -1 ≤ x ∧ x < (a.length : Int)) (gb : ∀ x ∈ b, -1 ≤ x ∧ x < (a.length : Int)) (gc : ∀ x ∈ c, -1 ≤ x ∧ x < (a.length : Int)) {x : Int} (h0 : 0 ≤ x) (h1 : x < (a.length : Int)) (h2 : 1 < rd (distM a b c) x) : ∃ y : Int, 0 ≤ y ∧ y < (a.length : Int) ∧ rd (distM a b c) y = rd (distM a b c) x - 1 ∧ (rd a y = x ∨ rd b y = x) :=
  bloop_pred rfl hb ga gb _ _ _ (broots_inv c _ gc (bstart_inv _)) (broots_pred c _ gc (bstart_inv _) (bstart_pred _ a b)) x h0 h1 h2
/-- What a valid heap gives for the distances. -/
theorem hv_a {a b c : List Int} (h : hv a b c = true) : ∀ x ∈ a, -1 ≤ x ∧ x < (a.length : Int) := (hv_iff.1 h).2.1
theorem hv_b {a b c : List Int} (h : hv a b c = true) : ∀ x ∈ b, -1 ≤ x ∧ x < (a.length : Int) := (hv_iff.1 h).2.2.1
theorem hv_c {a b c : List Int} (h : hv a b c = true) : ∀ x ∈ c, -1 ≤ x ∧ x < (a.length : Int) := (hv_iff.1 h).2.2.2
theorem two_ok {n : Nat} {x y : Int} (hx : -1 ≤ x ∧ x < (n : Int)) (hy : -1 ≤ y ∧ y < (n : Int)) : ∀ z ∈ [x, y], -1 ≤ z ∧ z < (n : Int) := by
  intro z hz
  rcases List.mem_cons.1 hz with rfl | hz
  · exact hx
  · obtain rfl : z = y := by simpa using hz
    exact hy
/-- The distance of a cell: 0 where there is none. -/
def hcM (a b c : List Int) (x : Int) : Bool := cellM a b c x && decide (rd (distM a b [rd a x, rd b x]) x > 0)
def doM (a b c : List Int) (x : Int) : Int × Bool := if cellM a b c x = true then (if rd (distM a b c) x < 0 then (0, false) else (rd (distM a b c) x, true)) else (0, false)
theorem distM_len {a b c : List Int} (hb : b.length = a.length) (ga : ∀ x ∈ a, -1 ≤ x ∧ x < (a.length : Int)) (gb : ∀ x ∈ b, -1 ≤ x ∧ x < (a.length : Int)) (gc : ∀ x ∈ c, -1 ≤ x ∧ x < (a.length : Int)) : (distM a b c).length = a.length := (distM_inv hb ga gb gc).len
theorem distM_val {a b c : List Int} (hb : b.length = a.length) (ga : ∀ x ∈ a, -1 ≤ x ∧ x < (a.length : Int)) (gb : ∀ x ∈ b, -1 ≤ x ∧ x < (a.length : Int)) (gc : ∀ x ∈ c, -1 ≤ x ∧ x < (a.length : Int)) {x : Int} (h0 : 0 ≤ x) (h1 : x < (a.length : Int)) : rd (distM a b c) x = -1 ∨ 1 ≤ rd (distM a b c) x := by
  rcases (distM_inv hb ga gb gc).val x h0 h1 with h | h
  · exact Or.inl h
  · exact Or.inr h.1
theorem l1Points_tells (x : Int) (n : Nat) : spec_l1Points.f x (n : Int) = some (okp n x) := by
  unfold spec_l1Points.f okp
  by_cases h : x ≥ -1
  · rw [if_pos h]; congr 1; simp; omega
  · rw [if_neg h]; congr 1; exact (decide_eq_false (fun h2 => h h2.1)).symm
theorem specHV_l1 (a b c : List Int) (n : Nat) (hl : c.length ≤ 3) : ∀ (d i k : Nat), i ≤ c.length → c.length - i = d → d < k →
    spec_HeapValid.l1 k (n : Int) (i : Int) a b c = some ((c.drop i).all (okp n)) := by
  intro d
  induction d with
  | zero =>
    intro i k hi hd hk
    obtain ⟨k, rfl⟩ : ∃ m, k = m + 1 := ⟨k - 1, by omega⟩
    rw [spec_HeapValid.l1, if_neg (by omega), all_drop_nil _ _ _ (by omega)]
  | succ d ih =>
    intro i k hi hd hk
    obtain ⟨k, rfl⟩ : ∃ m, k = m + 1 := ⟨k - 1, by omega⟩
    have hlt : i < c.length := by omega
    rw [spec_HeapValid.l1, if_pos (by omega), if_pos (by omega), l1Points_tells, all_drop_cons _ _ _ hlt, wrap_succ hlt (by omega)]
    simp only [Option.bind_some]
    cases h : okp n (rd c (i : Int)) with
    | true => rw [if_pos rfl, ih (i + 1) k (by omega) (by omega) (by omega), Bool.true_and]
    | false => rw [if_neg (by simp), Bool.false_and]
theorem specHV_l0 (a b c : List Int) (hl : c.length ≤ 3) (ha : a.length ≤ 8) (hb : b.length = a.length) : ∀ (d i k : Nat), i ≤ a.length → a.length - i = d → d + 5 < k →
    spec_HeapValid.l0 k (a.length : Int) (i : Int) a b c = some ((a.drop i).all (okp a.length) && ((b.drop i).all (okp a.length) && c.all (okp a.length))) := by
  intro d
  induction d with
  | zero =>
    intro i k hi hd hk
    obtain ⟨k, rfl⟩ : ∃ m, k = m + 1 := ⟨k - 1, by omega⟩
    rw [spec_HeapValid.l0, if_neg (by omega), all_drop_nil _ _ _ (by omega), all_drop_nil _ _ _ (by omega)]
    have := specHV_l1 a b c a.length hl c.length 0 k (by omega) (by omega) (by omega)
    simp only [List.drop_zero] at this
    rw [Bool.true_and, Bool.true_and]
    exact this
  | succ d ih =>
    intro i k hi hd hk
    obtain ⟨k, rfl⟩ : ∃ m, k = m + 1 := ⟨k - 1, by omega⟩
    have hlt : i < a.length := by omega
    have hlt2 : i < b.length := by omega
    rw [spec_HeapValid.l0, if_pos (by omega), if_pos (by omega), if_pos (by omega), l1Points_tells, all_drop_cons _ a _ hlt, all_drop_cons _ b _ hlt2]
    simp only [Option.bind_some]
    cases h : okp a.length (rd a (i : Int)) with
    | false => rw [if_neg (by simp), Bool.false_and, Bool.false_and]
    | true =>
      rw [if_pos rfl, if_pos (by omega), l1Points_tells, wrap_succ hlt (by omega)]
      simp only [Option.bind_some]
      cases h2 : okp a.length (rd b (i : Int)) with
      | false => rw [if_neg (by simp), Bool.false_and, Bool.false_and, Bool.and_false]
      | true => rw [if_pos rfl, ih (i + 1) k (by omega) (by omega) (by omega), Bool.true_and, Bool.true_and]
theorem hv_false {a b c : List Int} (h : ¬ (a.length = b.length ∧ 1 ≤ a.length ∧ a.length ≤ 8 ∧ 1 ≤ c.length ∧ c.length ≤ 3)) : hv a b c = false := by
  unfold hv; rw [decide_eq_false h, Bool.false_and]
theorem specHV_tells (a b c : List Int) (k : Nat) (hk : 40 ≤ k) : spec_HeapValid.f k a b c = some (hv a b c) := by
  unfold spec_HeapValid.f
  obtain ⟨k, rfl⟩ : ∃ m, k = m + 1 := ⟨k - 1, by omega⟩
  have hj : ∀ n : Int, spec_HeapValid.j0 (k + 1) n true a b c = some false := fun n => by rw [spec_HeapValid.j0, if_pos rfl]
  by_cases h1 : (a.length : Int) < 1
  · rw [if_pos h1, hj, hv_false (by omega)]
  rw [if_neg h1]
  by_cases h2 : (a.length : Int) > 8
  · rw [if_pos h2, hj, hv_false (by omega)]
  rw [if_neg h2]
  by_cases h3 : (b.length : Int) = (a.length : Int)
  · rw [if_pos h3]
    by_cases h4 : (c.length : Int) < 1
    · rw [if_pos h4, hj, hv_false (by omega)]
    rw [if_neg h4]
    by_cases h5 : (c.length : Int) > 3
    · rw [decide_eq_true h5, hj, hv_false (by omega)]
    rw [decide_eq_false h5, spec_HeapValid.j0, if_neg (by simp)]
    have := specHV_l0 a b c (by omega) (by omega) (by omega) a.length 0 k (by omega) (by omega) (by omega)
    simp only [List.drop_zero] at this
    refine this.trans ?_
    unfold hv
    rw [decide_eq_true (show a.length = b.length ∧ 1 ≤ a.length ∧ a.length ≤ 8 ∧ 1 ≤ c.length ∧ c.length ≤ 3 by omega), Bool.true_and]
  · rw [if_neg h3, hj, hv_false (by omega)]
theorem implHV_l1 (y : List (List Int)) (xs a b c : List Int) (i : Int) (h0 : -9223372036854775808 ≤ i) (h9 : i ≤ 9223372036854775806) (hl : xs.length ≤ 9223372036854775807) : ∀ (d j m : Nat), j ≤ xs.length → xs.length - j = d →
    impl_HeapValid.l1 (m + d + 1) y 3 i xs (xs.length : Int) (j : Int) a b c = if (xs.drop j).all (okp a.length) = true then impl_HeapValid.l0 m y 3 (i + 1) a b c else some false := by
  intro d
  induction d with
  | zero =>
    intro j m hj hd
    rw [impl_HeapValid.l1, if_neg (by omega), all_drop_nil _ _ _ (by omega), if_pos rfl, wrap_id (by omega) (by omega)]
  | succ d ih =>
    intro j m hj hd
    have hlt : j < xs.length := by omega
    rw [impl_HeapValid.l1, if_pos (by omega), if_pos (by omega), if_pos (by omega), all_drop_cons _ xs _ hlt, wrap_succ hlt hl]
    by_cases h1 : rd xs (j : Int) < -1
    · have : okp a.length (rd xs (j : Int)) = false := by unfold okp; exact decide_eq_false (by omega)
      rw [if_pos h1, this, Bool.false_and, if_neg (by simp)]
    · rw [if_neg h1]
      by_cases h2 : rd xs (j : Int) ≥ (a.length : Int)
      · have : okp a.length (rd xs (j : Int)) = false := by unfold okp; exact decide_eq_false (by omega)
        rw [if_pos h2, this, Bool.false_and, if_neg (by simp)]
      · have : okp a.length (rd xs (j : Int)) = true := by unfold okp; exact decide_eq_true (by omega)
        rw [if_neg h2, this, Bool.true_and]
        exact ih (j + 1) m (by omega) (by omega)
theorem implHV_l0 (a b c : List Int) (m : Nat) (hb : b.length ≤ 8) (ha : a.length ≤ 8) (hc : c.length ≤ 8) :
    impl_HeapValid.l0 (m + 1 + (c.length + 1) + 1 + (b.length + 1) + 1 + (a.length + 1) + 1) [a, b, c] 3 0 a b c = some (a.all (okp a.length) && (b.all (okp a.length) && c.all (okp a.length))) := by
  have e0 : rd_L1 [a, b, c] 0 = a := rfl
  have e1 : rd_L1 [a, b, c] 1 = b := rfl
  have e2 : rd_L1 [a, b, c] 2 = c := rfl
  rw [impl_HeapValid.l0, if_pos (by omega), if_pos (by omega), if_pos (by simp), e0]
  have s0 := implHV_l1 [a, b, c] a a b c 0 (by omega) (by omega) (by omega) a.length 0 (m + 1 + (c.length + 1) + 1 + (b.length + 1) + 1) (by omega) (by omega)
  simp only [List.drop_zero] at s0
  refine Eq.trans s0 ?_
  cases hA : a.all (okp a.length) with
  | false => rfl
  | true =>
    rw [if_pos rfl, Bool.true_and]
    rw [impl_HeapValid.l0, if_pos (by omega), if_pos (by omega), if_pos (by simp), show (0 : Int) + 1 = 1 from rfl, e1]
    have s1 := implHV_l1 [a, b, c] b a b c 1 (by omega) (by omega) (by omega) b.length 0 (m + 1 + (c.length + 1) + 1) (by omega) (by omega)
    simp only [List.drop_zero] at s1
    refine Eq.trans s1 ?_
    cases hB : b.all (okp a.length) with
    | false => rfl
    | true =>
      rw [if_pos rfl, Bool.true_and]
      rw [impl_HeapValid.l0, if_pos (by omega), if_pos (by omega), if_pos (by simp), show (1 : Int) + 1 = 2 from rfl, e2]
      have s2 := implHV_l1 [a, b, c] c a b c 2 (by omega) (by omega) (by omega) c.length 0 (m + 1) (by omega) (by omega)
      simp only [List.drop_zero] at s2
      refine Eq.trans s2 ?_
      cases hC : c.all (okp a.length) with
      | false => rfl
      | true => rw [if_pos rfl, impl_HeapValid.l0, if_neg (by omega)]
theorem implHV_tells (a b c : List Int) (k : Nat) (hk : 60 ≤ k) : impl_HeapValid.f k a b c = some (hv a b c) := by
  unfold impl_HeapValid.f
  obtain ⟨k, rfl⟩ : ∃ m, k = m + 1 := ⟨k - 1, by omega⟩
  have hj : impl_HeapValid.j0 (k + 1) true a b c = some false := by rw [impl_HeapValid.j0, if_pos rfl]
  by_cases h1 : (a.length : Int) = (b.length : Int)
  · rw [if_pos h1]
    by_cases h2 : (a.length : Int) < 1
    · rw [if_pos h2, hj, hv_false (by omega)]
    rw [if_neg h2]
    by_cases h3 : (a.length : Int) > 8
    · rw [if_pos h3, hj, hv_false (by omega)]
    rw [if_neg h3]
    by_cases h4 : (c.length : Int) < 1
    · rw [if_pos h4, hj, hv_false (by omega)]
    rw [if_neg h4]
    by_cases h5 : (c.length : Int) > 3
    · rw [decide_eq_true h5, hj, hv_false (by omega)]
    rw [decide_eq_false h5, impl_HeapValid.j0, if_neg (by simp)]
    simp only [Option.bind_some]
    obtain ⟨m, hm⟩ : ∃ m, k = m + 1 + (c.length + 1) + 1 + (b.length + 1) + 1 + (a.length + 1) + 1 := ⟨k - 1 - (c.length + 1) - 1 - (b.length + 1) - 1 - (a.length + 1) - 1, by omega⟩
    have := implHV_l0 a b c m (by omega) (by omega) (by omega)
    rw [← hm] at this
    refine Eq.trans this ?_
    unfold hv
    rw [decide_eq_true (show a.length = b.length ∧ 1 ≤ a.length ∧ a.length ≤ 8 ∧ 1 ≤ c.length ∧ c.length ≤ 3 by omega), Bool.true_and]
  · rw [if_neg h1, hj, hv_false (by omega)]
theorem colorsOk_l0 (x e : List Int) (n : Int) (hl : e.length ≤ 9223372036854775807) : ∀ (d i k : Nat), i ≤ e.length → e.length - i = d → d < k →
    impl_colorsOk.l0 k x n e (e.length : Int) (i : Int) = some ((e.drop i).all okc && ((x.length : Int) == n)) := by
  intro d
  induction d with
  | zero =>
    intro i k hi hd hk
    obtain ⟨k, rfl⟩ : ∃ m, k = m + 1 := ⟨k - 1, by omega⟩
    rw [impl_colorsOk.l0, if_neg (by omega), all_drop_nil _ _ _ (by omega), Bool.true_and]
  | succ d ih =>
    intro i k hi hd hk
    obtain ⟨k, rfl⟩ : ∃ m, k = m + 1 := ⟨k - 1, by omega⟩
    have hlt : i < e.length := by omega
    rw [impl_colorsOk.l0, if_pos (by omega), if_pos (by omega), if_pos (by omega), all_drop_cons _ _ _ hlt, wrap_succ hlt hl]
    by_cases h1 : rd e (i : Int) < 0
    · have : okc (rd e (i : Int)) = false := by unfold okc; exact decide_eq_false (by omega)
      rw [if_pos h1, this, Bool.false_and, Bool.false_and]
    · rw [if_neg h1]
      by_cases h2 : rd e (i : Int) > 2
      · have : okc (rd e (i : Int)) = false := by unfold okc; exact decide_eq_false (by omega)
        rw [if_pos h2, this, Bool.false_and, Bool.false_and]
      · have : okc (rd e (i : Int)) = true := by unfold okc; exact decide_eq_true (by omega)
        rw [if_neg h2, this, Bool.true_and]
        exact ih (i + 1) k (by omega) (by omega) (by omega)
theorem colorsOk_tells (e : List Int) (n : Nat) (k : Nat) (he : e.length ≤ 1048576) (hk : 1048600 ≤ k) : impl_colorsOk.f k e (n : Int) = some (e.all okc && decide (e.length = n)) := by
  unfold impl_colorsOk.f
  refine Eq.trans (colorsOk_l0 e e n (by omega) e.length 0 k (by omega) (by omega) (by omega)) ?_
  rw [List.drop_zero]
  congr 2
  rw [Bool.eq_iff_iff]; simp; omega
theorem implCV_tells (a b c e : List Int) (k : Nat) (he : e.length ≤ 1048576) (hk : 1048600 ≤ k) : impl_ColoredValid.f k a b c e = some (cv a b c e) := by
  unfold impl_ColoredValid.f cv
  rw [implHV_tells a b c k (by omega)]
  simp only [Option.bind_some]
  cases h : hv a b c with
  | false => rw [if_neg (by simp), Bool.false_and]
  | true => rw [if_pos rfl, Bool.true_and, colorsOk_tells e a.length k he hk]; rfl
theorem copied_tells (a b c : List Int) (ha : a.length ≤ 1048576) (hb : b.length ≤ 1048576) (hc : c.length ≤ 1048576) : impl_copied.f a b c = some (a, b, c) := by
  unfold impl_copied.f slices_Clone_int_int.f
  rw [if_pos (by omega), if_pos (by omega), if_pos (by omega)]
  rfl
theorem fresh_tells (a b c e : List Int) (ha : a.length ≤ 1048576) (hb : b.length ≤ 1048576) (hc : c.length ≤ 1048576) (he : e.length ≤ 1048576) : impl_fresh.f a b c e = some (a, b, c, e) := by
  unfold impl_fresh.f
  rw [copied_tells a b c ha hb hc]
  simp only [Option.bind_some]
  unfold slices_Clone_int_int.f
  rw [if_pos (by omega)]
  rfl
theorem shade_tells {e : List Int} {p : Int} (hp : p = -1 ∨ (0 ≤ p ∧ p < (e.length : Int))) : impl_shade.f e p = some (sh e p) := by
  unfold impl_shade.f sh
  by_cases h : p = -1
  · rw [if_pos h, if_neg (fun k => k.1 h)]
  · obtain ⟨h0, h1⟩ := hp.resolve_left h
    rw [if_neg h, if_pos h0, if_pos h1]
    by_cases g : rd e p = 0
    · rw [if_pos g, if_pos ⟨h, g⟩]
    · rw [if_neg g, if_neg (fun k => g k.2)]
theorem implSR_l0 (a b r c : List Int) {n : Nat} (hc : ∀ x ∈ c, -1 ≤ x ∧ x < (n : Int)) (hl : c.length ≤ 1048576) : ∀ (d i k : Nat) (e : List Int), i ≤ c.length → c.length - i = d → d < k → e.length = n → impl_ShadeRoots.l0 k c (c.length : Int) (i : Int) a b r e = some (a, b, r, shAll (c.drop i) e, true) := by
  intro d
  induction d with
  | zero =>
    intro i k e hi hd hk he
    obtain ⟨k, rfl⟩ : ∃ m, k = m + 1 := ⟨k - 1, by omega⟩
    rw [impl_ShadeRoots.l0, if_neg (by omega), List.drop_eq_nil_of_le (by omega)]
    rfl
  | succ d ih =>
    intro i k e hi hd hk he
    obtain ⟨k, rfl⟩ : ∃ m, k = m + 1 := ⟨k - 1, by omega⟩
    have hlt : i < c.length := by omega
    have hm := hc _ (rd_mem c (i : Int) (by omega) (by omega))
    rw [impl_ShadeRoots.l0, if_pos (by omega), if_pos (by omega), if_pos (by omega), shade_tells (by omega), drop_rd c i hlt]
    simp only [Option.bind_some]
    rw [wrap_succ hlt (by omega), ih (i + 1) k (sh e (rd c (i : Int))) (by omega) (by omega) (by omega) ((sh_len e _).trans he)]
    rfl
theorem implSR_tells (a b c e : List Int) (k : Nat) (he : e.length ≤ 1048576) (hk : 1048601 ≤ k) : impl_ShadeRoots.f k a b c e = some (srM a b c e) := by
  unfold impl_ShadeRoots.f
  rw [implCV_tells a b c e _ he (by omega)]
  simp only [Option.bind_some]
  unfold srM
  by_cases h : cv a b c e = true
  · have hl := cv_lens h
    have hc := hv_c (cv_iff.1 h).1
    rw [if_pos h, if_pos h, fresh_tells a b c e (by omega) (by omega) (by omega) he]
    simp only [Option.bind_some]
    exact implSR_l0 a b c c hc (by omega) c.length 0 k e (by omega) (by omega) (by omega) (by omega)
  · rw [if_neg h, if_neg h]
theorem l1Copy_tells (a b c : List Int) (ha : a.length ≤ 1048576) (hb : b.length ≤ 1048576) (hc : c.length ≤ 1048576) : spec_l1Copy.f a b c = some (a, b, c) := by
  unfold spec_l1Copy.f
  simp only [Option.bind_some, List.length_nil, List.nil_append]
  rw [if_pos (by omega), if_pos (by omega), if_pos (by omega)]
theorem l3Copy_tells (a b c e : List Int) (ha : a.length ≤ 1048576) (hb : b.length ≤ 1048576) (hc : c.length ≤ 1048576) (he : e.length ≤ 1048576) : spec_l3Copy.f a b c e = some (a, b, c, e) := by
  unfold spec_l3Copy.f
  rw [l1Copy_tells a b c ha hb hc]
  simp only [Option.bind_some, List.length_nil, List.nil_append]
  rw [if_pos (by omega)]
theorem specCV_l0 (a b c e : List Int) (hl : e.length ≤ 9223372036854775807) : ∀ (d i k : Nat), i ≤ e.length → e.length - i = d → d < k →
    spec_ColoredValid.l0 k (i : Int) a b c e = some ((e.drop i).all okc) := by
  intro d
  induction d with
  | zero =>
    intro i k hi hd hk
    obtain ⟨k, rfl⟩ : ∃ m, k = m + 1 := ⟨k - 1, by omega⟩
    rw [spec_ColoredValid.l0, if_neg (by omega), all_drop_nil _ _ _ (by omega)]
  | succ d ih =>
    intro i k hi hd hk
    obtain ⟨k, rfl⟩ : ∃ m, k = m + 1 := ⟨k - 1, by omega⟩
    have hlt : i < e.length := by omega
    rw [spec_ColoredValid.l0, if_pos (by omega), if_pos (by omega), all_drop_cons _ _ _ hlt, wrap_succ hlt hl]
    by_cases h1 : rd e (i : Int) < 0
    · have : okc (rd e (i : Int)) = false := by unfold okc; exact decide_eq_false (by omega)
      rw [if_pos h1, this, Bool.false_and]
    · rw [if_neg h1]
      by_cases h2 : rd e (i : Int) > 2
      · have : okc (rd e (i : Int)) = false := by unfold okc; exact decide_eq_false (by omega)
        rw [if_pos h2, this, Bool.false_and]
      · have : okc (rd e (i : Int)) = true := by unfold okc; exact decide_eq_true (by omega)
        rw [if_neg h2, this, Bool.true_and]
        exact ih (i + 1) k (by omega) (by omega) (by omega)
theorem specCV_tells (a b c e : List Int) (k : Nat) (he : e.length ≤ 1048576) (hk : 1048600 ≤ k) : spec_ColoredValid.f k a b c e = some (cv a b c e) := by
  unfold spec_ColoredValid.f
  rw [specHV_tells a b c k (by omega)]
  simp only [Option.bind_some]
  obtain ⟨k, rfl⟩ : ∃ m, k = m + 1 := ⟨k - 1, by omega⟩
  have hj : spec_ColoredValid.j0 (k + 1) true a b c e = some false := by rw [spec_ColoredValid.j0, if_pos rfl]
  unfold cv
  cases h : hv a b c with
  | false => rw [if_neg (by simp), hj, Bool.false_and]
  | true =>
    rw [if_pos rfl, Bool.true_and]
    by_cases h2 : e.length = a.length
    · have : ((e.length : Int) != (a.length : Int)) = false := by simp [h2]
      rw [this, spec_ColoredValid.j0, if_neg (by simp), decide_eq_true h2, Bool.and_true]
      exact specCV_l0 a b c e (by omega) e.length 0 k (by omega) (by omega) (by omega)
    · have : ((e.length : Int) != (a.length : Int)) = true := by simp; omega
      rw [this, hj, decide_eq_false h2, Bool.and_false]
theorem l3Shade_tells {e : List Int} {p : Int} (hp : p = -1 ∨ (0 ≤ p ∧ p < (e.length : Int))) : spec_l3Shade.f e p = some (sh e p) := by
  unfold spec_l3Shade.f sh
  by_cases h : p = -1
  · rw [if_pos h, if_neg (fun k => k.1 h)]
  · obtain ⟨h0, h1⟩ := hp.resolve_left h
    rw [if_neg h, if_pos h0, if_pos h1]
    by_cases g : rd e p = 0
    · rw [if_pos g, if_pos ⟨h, g⟩]
    · rw [if_neg g, if_neg (fun k => g k.2)]
theorem specSR_l0 (a b e0 x y z c : List Int) {n : Nat} (hc : ∀ x ∈ c, -1 ≤ x ∧ x < (n : Int)) (hl : c.length ≤ 1048576) : ∀ (d i k : Nat) (e : List Int), i ≤ c.length → c.length - i = d → d < k → e.length = n → spec_ShadeRoots.l0 k (i : Int) a b c e0 x y z e = some (x, y, z, shAll (c.drop i) e, true) := by
  intro d
  induction d with
  | zero =>
    intro i k e hi hd hk he
    obtain ⟨k, rfl⟩ : ∃ m, k = m + 1 := ⟨k - 1, by omega⟩
    rw [spec_ShadeRoots.l0, if_neg (by omega), List.drop_eq_nil_of_le (by omega)]
    rfl
  | succ d ih =>
    intro i k e hi hd hk he
    obtain ⟨k, rfl⟩ : ∃ m, k = m + 1 := ⟨k - 1, by omega⟩
    have hlt : i < c.length := by omega
    have hm := hc _ (rd_mem c (i : Int) (by omega) (by omega))
    rw [spec_ShadeRoots.l0, if_pos (by omega), if_pos (by omega), l3Shade_tells (by omega), drop_rd c i hlt]
    simp only [Option.bind_some]
    rw [wrap_succ hlt (by omega), ih (i + 1) k (sh e (rd c (i : Int))) (by omega) (by omega) (by omega) ((sh_len e _).trans he)]
    rfl
theorem specSR_tells (a b c e : List Int) (k : Nat) (he : e.length ≤ 1048576) (hk : 1048601 ≤ k) : spec_ShadeRoots.f k a b c e = some (srM a b c e) := by
  unfold spec_ShadeRoots.f
  rw [specCV_tells a b c e _ he (by omega)]
  simp only [Option.bind_some]
  unfold srM
  by_cases h : cv a b c e = true
  · have hl := cv_lens h
    have hc := hv_c (cv_iff.1 h).1
    rw [if_pos h, if_pos h, l3Copy_tells a b c e (by omega) (by omega) (by omega) he]
    simp only [Option.bind_some]
    exact specSR_l0 a b e a b c c hc (by omega) c.length 0 k e (by omega) (by omega) (by omega) (by omega)
  · rw [if_neg h, if_neg h]
theorem szIntS_tells (l : List Int) (L : Int) (h0 : 0 ≤ L) (h1 : L ≤ 1048576) (hl : l.length ≤ 9223372036854775807) :
    laws_szIntS.f l L = some (if (l.length : Int) ≤ L then L - l.length else -1) := by
  unfold laws_szIntS.f
  rw [wrap_id (by omega) (by omega)]
  by_cases h : (l.length : Int) ≤ L
  · rw [if_neg (by omega), if_pos h]
  · rw [if_pos (by omega), if_neg h]
/-- What is left behind a heap: not less than 0 exactly if it fits. -/
theorem szHeap_tells (a b c : List Int) (L : Int) (h0 : 0 ≤ L) (h1 : L ≤ 1048576) (ha : a.length ≤ 9223372036854775807) (hb : b.length ≤ 9223372036854775807) (hc : c.length ≤ 9223372036854775807) :
    laws_szHeap.f a b c L = some (if (a.length : Int) + b.length + c.length ≤ L then L - a.length - b.length - c.length else -1) := by
  unfold laws_szHeap.f
  rw [szIntS_tells a L h0 h1 ha]
  simp only [Option.bind_some]
  by_cases h2 : (a.length : Int) ≤ L
  · rw [if_pos h2, if_neg (by omega), szIntS_tells b _ (by omega) (by omega) hb]
    simp only [Option.bind_some]
    by_cases h3 : (b.length : Int) ≤ L - a.length
    · rw [if_pos h3, if_neg (by omega), szIntS_tells c _ (by omega) (by omega) hc]
      simp only [Option.bind_some]
      by_cases h4 : (c.length : Int) ≤ L - a.length - b.length
      · rw [if_pos h4, if_neg (by omega), if_pos (by omega)]
      · rw [if_neg h4, if_pos (by omega), if_neg (by omega)]
    · rw [if_neg h3, if_pos (by omega), if_neg (by omega)]
  · rw [if_neg h2, if_pos (by omega), if_neg (by omega)]
theorem szColored_tells (a b c e : List Int) (L : Int) (h0 : 0 ≤ L) (h1 : L ≤ 1048576) (ha : a.length ≤ 9223372036854775807) (hb : b.length ≤ 9223372036854775807) (hc : c.length ≤ 9223372036854775807) (he : e.length ≤ 9223372036854775807) :
    laws_szColored.f a b c e L = some (if (a.length : Int) + b.length + c.length + e.length ≤ L then L - a.length - b.length - c.length - e.length else -1) := by
  unfold laws_szColored.f
  rw [szHeap_tells a b c L h0 h1 ha hb hc]
  simp only [Option.bind_some]
  by_cases h2 : (a.length : Int) + b.length + c.length ≤ L
  · rw [if_pos h2, if_neg (by omega), szIntS_tells e _ (by omega) (by omega) he]
    simp only [Option.bind_some]
    by_cases h3 : (e.length : Int) ≤ L - a.length - b.length - c.length
    · rw [if_pos h3, if_neg (by omega), if_pos (by omega)]
    · rw [if_neg h3, if_pos (by omega), if_neg (by omega)]
  · rw [if_neg h2, if_pos (by omega), if_neg (by omega)]
theorem toIntS_l0 (l : List Int) (hl : l.length ≤ 9223372036854775807) : ∀ (d n k : Nat) (x : List Int), n ≤ l.length → l.length - n = d → d < k → x.length = l.length → x.take n = l.take n →
    laws_toIntS.l0 k l x (n : Int) = some l := by
  intro d
  induction d with
  | zero =>
    intro k' k x hn hd hk hx he
    obtain ⟨k, rfl⟩ : ∃ m, k = m + 1 := ⟨k - 1, by omega⟩
    rw [laws_toIntS.l0, if_neg (by omega)]
    obtain rfl : k' = l.length := by omega
    rw [List.take_of_length_le (by omega), List.take_of_length_le (by omega)] at he
    rw [he]
  | succ d ih =>
    intro n k x hn hd hk hx he
    obtain ⟨k, rfl⟩ : ∃ m, k = m + 1 := ⟨k - 1, by omega⟩
    have hlt : n < l.length := by omega
    rw [laws_toIntS.l0, if_pos (by omega), if_pos (by omega), if_pos (by omega), wrap_succ hlt hl, Int.toNat_natCast]
    exact ih (n + 1) k _ (by omega) (by omega) (by omega) (by simpa using hx) (set_take l x n hlt hx he)
theorem toIntS_tells (l : List Int) (k : Nat) (hl : l.length ≤ 1048576) (hk : l.length < k) : laws_toIntS.f k l = some l := by
  unfold laws_toIntS.f
  rw [if_pos (by omega), if_pos (by omega)]
  exact toIntS_l0 l (by omega) l.length 0 k _ (by omega) (by omega) hk (by simp) (by simp)
theorem toHeap_tells (a b c : List Int) (k : Nat) (ha : a.length ≤ 1048576) (hb : b.length ≤ 1048576) (hc : c.length ≤ 1048576) (hk : 1048577 ≤ k) : laws_toHeap.f k a b c = some (a, b, c) := by
  unfold laws_toHeap.f
  rw [toIntS_tells a k ha (by omega), toIntS_tells b k hb (by omega), toIntS_tells c k hc (by omega)]
  rfl
theorem toColored_tells (a b c e : List Int) (k : Nat) (ha : a.length ≤ 1048576) (hb : b.length ≤ 1048576) (hc : c.length ≤ 1048576) (he : e.length ≤ 1048576) (hk : 1048577 ≤ k) : laws_toColored.f k a b c e = some (a, b, c, e) := by
  unfold laws_toColored.f
  rw [toHeap_tells a b c k ha hb hc hk]
  simp only [Option.bind_some]
  rw [toIntS_tells e k he (by omega)]
  rfl
theorem pure_FnExactShadeRoots (a b c e : List Int) (ha : a.length ≤ 9223372036854775807) (hb : b.length ≤ 9223372036854775807) (hc : c.length ≤ 9223372036854775807) (he : e.length ≤ 9223372036854775807) : ∃ k, laws_FnExactShadeRoots.f k a b c e = some true := by
  refine ⟨1048700, ?_⟩
  obtain ⟨k, hk⟩ : ∃ k : Nat, k = 1048697 := ⟨_, rfl⟩
  rw [show 1048700 = k + 3 from by omega]
  unfold laws_FnExactShadeRoots.f
  rw [szColored_tells a b c e 1048576 (by omega) (by omega) ha hb hc he]
  simp only [Option.bind_some]
  by_cases h : (a.length : Int) + b.length + c.length + e.length ≤ 1048576
  · have hl := srM_lens a b c e
    rw [if_pos h, if_neg (by omega), toColored_tells a b c e _ (by omega) (by omega) (by omega) (by omega) (by omega)]
    simp only [Option.bind_some]
    rw [specSR_tells a b c e _ (by omega) (by omega), implSR_tells a b c e _ (by omega) (by omega)]
    simp only [Option.bind_some]
    rw [eqColored_tells _ _ _ _ _ _ _ _ _ (by omega) (by omega) (by omega) (by omega) (by omega)]
    simp only [Option.bind_some]
    have hm := markColored_tells a b c e 1 (k + 2) (by omega) (by omega) (by omega) (by omega) (by omega) (by omega)
    have hm2 := markColored_tells (srM a b c e).1 (srM a b c e).2.1 (srM a b c e).2.2.1 (srM a b c e).2.2.2.1 1 (k + 1) (by omega) (by omega) (by omega) (by omega) (by omega) (by omega)
    have hh := heldColored_tells (srM a b c e).1.length (srM a b c e).2.1.length (srM a b c e).2.2.1.length (srM a b c e).2.2.2.1.length 1 (k + 1) (by omega) (by omega) (by omega) (by omega) (by omega) (by omega)
    have hh2 := heldColored_tells (srM a b c e).1.length (srM a b c e).2.1.length (srM a b c e).2.2.1.length (srM a b c e).2.2.2.1.length 1 k (by omega) (by omega) (by omega) (by omega) (by omega) (by omega)
    rw [show ((1 : Nat) : Int) = 1 from rfl] at hm hm2 hh hh2
    rw [if_pos (by simp), laws_FnExactShadeRoots.j0, if_neg (by simp), toColored_tells a b c e _ (by omega) (by omega) (by omega) (by omega) (by omega)]
    simp only [Option.bind_some]
    rw [eqColored_tells _ _ _ _ _ _ _ _ _ (by omega) (by omega) (by omega) (by omega) (by omega)]
    simp only [Option.bind_some]
    rw [if_pos (by simp), hm]
    simp only [Option.bind_some]
    rw [if_neg (by omega), eqColored_tells _ _ _ _ _ _ _ _ _ (by omega) (by omega) (by omega) (by omega) (by omega)]
    simp only [Option.bind_some]
    rw [if_pos (by simp), laws_FnExactShadeRoots.j1, if_neg (by simp), hm2]
    simp only [Option.bind_some]
    rw [hh]
    simp only [Option.bind_some]
    rw [if_neg (by omega), if_pos (by simp), toColored_tells a b c e _ (by omega) (by omega) (by omega) (by omega) (by omega)]
    simp only [Option.bind_some]
    rw [implSR_tells a b c e _ (by omega) (by omega)]
    simp only [Option.bind_some]
    rw [eqColored_tells _ _ _ _ _ _ _ _ _ (by omega) (by omega) (by omega) (by omega) (by omega)]
    simp only [Option.bind_some]
    rw [if_pos (by simp), laws_FnExactShadeRoots.j2, if_neg (by simp), hh2]
    simp only [Option.bind_some]
    rw [if_neg (by omega), if_pos (by simp)]
  · rw [if_neg h, if_pos (by omega)]
end Go.Proofs.Ytkbaggfkidalfaa.A
