/- Contracts of functions of the given program (PPath). No conditions beyond those stated. -/
import Derived.Test.YtffnpclehhoeaaaPBfs
import Derived.Test.YtffnpclehhoeaaaPHvdef
import Derived.Test.YtffnpclehhoeaaaA0
namespace Go.Proofs.Ytffnpclehhoeaaa.A
open Go.RowKit Go.Proofs.YtffnpclehhoeaaaW.PrintWords Go.Proofs.YtffnpclehhoeaaaW.PrintLast Go.Proofs.YtffnpclehhoeaaaW.PrintMore
attribute [local go_sem] max2_int min2_int max_two min_two max_three min_three max_four min_four   -- for this text's walks alone
set_option linter.unusedVariables false
set_option linter.unusedSimpArgs false

/-- The first cell from i on with distance v that points to x. -/
def fnd (a b d : List Int) (x v : Int) (i : Nat) : Option Int := ((List.range d.length).drop i).findSome? (fun (j : Nat) => if rd d (j : Int) = v ∧ (rd a (j : Int) = x ∨ rd b (j : Int) = x) then some (j : Int) else none)
theorem fnd_nil (a b d : List Int) (x v : Int) (i : Nat) (h : d.length ≤ i) : fnd a b d x v i = none := by
  unfold fnd; rw [List.drop_eq_nil_of_le (by simpa using h)]; rfl
theorem fnd_cons (a b d : List Int) (x v : Int) (i : Nat) (h : i < d.length) : fnd a b d x v i = if rd d (i : Int) = v ∧ (rd a (i : Int) = x ∨ rd b (i : Int) = x) then some (i : Int) else fnd a b d x v (i + 1) := by
  unfold fnd
  rw [List.drop_eq_getElem_cons (by simpa using h), List.findSome?_cons]
  simp only [List.getElem_range]
  by_cases h2 : rd d (i : Int) = v ∧ (rd a (i : Int) = x ∨ rd b (i : Int) = x)
  · rw [if_pos h2, if_pos h2]
  · rw [if_neg h2, if_neg h2]
theorem fnd_spec (a b d : List Int) (x v : Int) : ∀ (e i : Nat), d.length - i = e → ∀ j, fnd a b d x v i = some j → 0 ≤ j ∧ j < (d.length : Int) ∧ rd d j = v ∧ (rd a j = x ∨ rd b j = x) := by
  intro e
  induction e with
  | zero => intro i he j hj; rw [fnd_nil _ _ _ _ _ _ (by omega)] at hj; exact absurd hj (by simp)
  | succ e ih =>
    intro i he j hj
    rw [fnd_cons _ _ _ _ _ _ (by omega)] at hj
    by_cases h2 : rd d (i : Int) = v ∧ (rd a (i : Int) = x ∨ rd b (i : Int) = x)
    · rw [if_pos h2] at hj
      obtain rfl := Option.some.inj hj
      exact ⟨by omega, by omega, h2⟩
    · rw [if_neg h2] at hj
      exact ih (i + 1) (by omega) j hj
theorem fnd_some (a b d : List Int) (x v : Int) (c : Nat) (hc : c < d.length) (h : rd d (c : Int) = v ∧ (rd a (c : Int) = x ∨ rd b (c : Int) = x)) : ∀ (e i : Nat), c - i = e → i ≤ c → ∃ j, fnd a b d x v i = some j := by
  intro e
  induction e with
  | zero =>
    intro i he hi
    obtain rfl : i = c := by omega
    exact ⟨_, by rw [fnd_cons _ _ _ _ _ _ hc, if_pos h]⟩
  | succ e ih =>
    intro i he hi
    rw [fnd_cons _ _ _ _ _ _ (by omega)]
    by_cases h2 : rd d (i : Int) = v ∧ (rd a (i : Int) = x ∨ rd b (i : Int) = x)
    · exact ⟨_, by rw [if_pos h2]⟩
    · rw [if_neg h2]; exact ih (i + 1) (by omega) (by omega)
/-- A way to its head, whose distance is m + 1, made longer to a start. -/
def pathFrom (a b d : List Int) : Nat → List Int → List Int
  | 0, o => o
  | m + 1, o => match fnd a b d (rd o 0) ((m : Int) + 1) 0 with
    | some j => pathFrom a b d m (j :: o)
    | none => o
def pathM (a b c : List Int) (x : Int) : List Int × Bool := if cellM a b c x = true then (if rd (distM a b c) x < 0 then ([], false) else (pathFrom a b (distM a b c) ((rd (distM a b c) x).toNat - 1) [x], true)) else ([], false)
/-- What a way's head must have. -/
structure PInv (n : Nat) (d o : List Int) (m : Nat) : Prop where
  ne : 0 < o.length
  lo : 0 ≤ rd o 0
  hi : rd o 0 < (n : Int)
  dist : rd d (rd o 0) = (m : Int) + 1
theorem p_next {a b c : List Int} (hb : b.length = a.length) (ga : ∀ x ∈ a, -1 ≤ x ∧ x < (a.length : Int)) (gb : ∀ x ∈ b, -1 ≤ x ∧ x < (a.length : Int)) (gc : ∀ x ∈ c, -1 ≤ x ∧ x < (a.length : Int)) {o : List Int} {m : Nat} (h : PInv a.length (distM a b c) o (m + 1)) :
    ∃ j, fnd a b (distM a b c) (rd o 0) ((m : Int) + 1) 0 = some j ∧ PInv a.length (distM a b c) (j :: o) m ∧ (0 ≤ j ∧ j < (a.length : Int) ∧ rd (distM a b c) j = (m : Int) + 1 ∧ (rd a j = rd o 0 ∨ rd b j = rd o 0)) := by
  have hl := distM_len hb ga gb gc
  have hd := h.dist
  obtain ⟨y, y0, y1, y2, y3⟩ := distM_pred hb ga gb gc h.lo h.hi (by omega)
  obtain ⟨y, rfl⟩ : ∃ n : Nat, y = (n : Int) := ⟨y.toNat, by omega⟩
  obtain ⟨j, hj⟩ := fnd_some a b (distM a b c) (rd o 0) ((m : Int) + 1) y (by omega) ⟨by omega, y3⟩ y 0 (by omega) (by omega)
  have hs := fnd_spec a b (distM a b c) (rd o 0) ((m : Int) + 1) _ 0 rfl j hj
  exact ⟨j, hj, ⟨by simp, hs.1, by have := hs.2.1; show j < _; omega, hs.2.2.1⟩, hs.1, by omega, hs.2.2⟩
theorem pathFrom_len (a b d : List Int) : ∀ (m : Nat) (o : List Int), (pathFrom a b d m o).length ≤ o.length + m
  | 0, o => by rw [pathFrom]; omega
  | m + 1, o => by
    rw [pathFrom]
    split
    · rename_i j _
      have := pathFrom_len a b d m (j :: o)
      rw [List.length_cons] at this; omega
    · omega
theorem pathM_len (a b c : List Int) (x : Int) : (pathM a b c x).1.length ≤ 10 := by
  unfold pathM
  by_cases h : cellM a b c x = true
  · rw [if_pos h]
    have hh := cellM_iff.1 h
    have hl := hv_len hh.1
    by_cases h2 : rd (distM a b c) x < 0
    · rw [if_pos h2]; simp
    · rw [if_neg h2]
      have hi := distM_inv (by omega) (hv_a hh.1) (hv_b hh.1) (hv_c hh.1)
      have hle := hi.le
      have hv2 : rd (distM a b c) x ≤ 8 := by
        rcases hi.val x hh.2.1 hh.2.2 with v | v
        · have v' : rd (distM a b c) x = -1 := v
          omega
        · have v' : rd (distM a b c) x ≤ _ := v.2
          omega
      have := pathFrom_len a b (distM a b c) ((rd (distM a b c) x).toNat - 1) [x]
      show (pathFrom a b (distM a b c) ((rd (distM a b c) x).toNat - 1) [x]).length ≤ 10
      simp at this; omega
  · rw [if_neg h]; simp

end Go.Proofs.Ytffnpclehhoeaaa.A
