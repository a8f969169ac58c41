/- How heaps and colored heaps that come in are read: words for the rows. No conditions. -/
import Derived.Test.YtomeaapjjmaepaaDoorA0
import Derived.ProofKit
import Derived.OpenShut
import Derived.Lib.SmallJoins
import Derived.Deep.Strs
namespace Go.Proofs.YtomeaapjjmaepaaDoor.A
open Go.ChangeShapes Go.WideShapes Go.ChangeAt Go.RowKit Go.Proofs.YtomeaapjjmaepaaDoorW.PrintWords Go.Proofs.YtomeaapjjmaepaaDoorW.PrintLast Go.Proofs.YtomeaapjjmaepaaDoorW.PrintMore
theorem i64_bounds {x : Int} (h : (Lit.int .i64 x).wf = true) : -9223372036854775808 ≤ x ∧ x ≤ 9223372036854775807 := by
  exact bounds_i64 h
theorem u8_bounds {l : List Int} (h : ∀ x ∈ l, (Lit.int .u8 x).wf = true) : ∀ x ∈ l, 0 ≤ x ∧ x ≤ 255 := fun x hx => bounds_u8 (h x hx)
section
variable {H : Type} {enc : TypeId × Value → H} {P : Program} {w : World} {held : Bool}
/-- What is told of a slice of whole numbers that came in. -/
def Ints (w : World) (k : IntKind) (v : Value) (a : Option Addr) (c : Nat) (l : List Int) : Prop :=
  v = .slice a l.length c ∧ Kd.C (Kd.int k) w a l.length l ∧ l.length ≤ c ∧ l.length ≤ 9223372036854775807 ∧ ∀ x ∈ l, (Lit.int k x).wf = true
theorem read_ints {t e : TypeId} {fuel : Nat} {k : IntKind} {v : Value} {y : DataW H × List MemPlace} (ht : P.underlying t = some (.slice e)) (he : P.underlying e = some (.int k)) (hc : P.cellsOf e = 1)
    (h : DataW.trod enc P w 0 (fun _ => true) held fuel t [v] = some y) : ∃ a c l, Ints w k v a c l := by
  have key : ∃ a len cap zs, v = .slice a len cap ∧ ((a = none ∧ len = 0 ∧ cap = 0 ∧ zs = []) ∨ ∃ x, a = some x ∧ len ≤ cap ∧ cap ≤ maxLen ∧ zs.length = cap ∧ (∀ i, i < zs.length → w.cell? (x.add i) = some (.int k (zs.getD i 0))) ∧ ∀ n ∈ zs, (Lit.int k n).wf = true) := by
    rcases open_ints ht he hc h with ⟨hcs, _⟩ | ⟨x, len, cap, zs, hcs, _, hl, hm, hz, _, hcell, hwz⟩
    · simp only [List.cons.injEq, and_true] at hcs
      exact ⟨none, 0, 0, [], hcs, .inl ⟨rfl, rfl, rfl, rfl⟩⟩
    · simp only [List.cons.injEq, and_true] at hcs
      exact ⟨some x, len, cap, zs, hcs, .inr ⟨x, rfl, hl, hm, by simpa using hz, hcell, hwz⟩⟩
  obtain ⟨a, len, cap, zs, rfl, hk⟩ := key
  obtain ⟨l, rfl, hr, hm, hw, hcap⟩ := ReadsInt.ofRowC hk
  exact ⟨a, cap, l, rfl, Kd.C_of_reads (d := (0 : Int)) (h1 := fun _ => rfl) hr, hcap, by unfold maxLen at hm; omega, hw⟩
theorem read_heap {t e s : TypeId} {f0 f1 f2 : Field} {fuel : Nat} {v0 v1 v2 : Value} {y : DataW H × List MemPlace} (hs : P.underlying s = some (.struct #[f0, f1, f2])) (h0 : f0.type = t ∧ f0.offset = 0) (h1 : f1.type = t ∧ f1.offset = 1) (h2 : f2.type = t ∧ f2.offset = 2) (h3 : P.cellsOf t = 1)
    (ht : P.underlying t = some (.slice e)) (he : P.underlying e = some (.int .i64)) (hc : P.cellsOf e = 1) (h : DataW.trod enc P w 0 (fun _ => true) held fuel s [v0, v1, v2] = some y) :
    (∃ a c l, Ints w .i64 v0 a c l) ∧ (∃ a c l, Ints w .i64 v1 a c l) ∧ (∃ a c l, Ints w .i64 v2 a c l) := by
  obtain ⟨xs, n, _, _, _, hlen, hf⟩ := DataW.trod_struct hs h
  have g0 := hf 0 f0 rfl
  have g1 := hf 1 f1 rfl
  have g2 := hf 2 f2 rfl
  rw [h0.1, h0.2, h3] at g0
  rw [h1.1, h1.2, h3] at g1
  rw [h2.1, h2.2, h3] at g2
  have hl : xs.length = 3 := hlen
  rw [List.getElem?_eq_getElem (by omega)] at g0 g1 g2
  exact ⟨read_ints ht he hc (by simpa using g0), read_ints ht he hc (by simpa using g1), read_ints ht he hc (by simpa using g2)⟩
theorem open_heap {t e s : TypeId} {r : Reach} {b0 : Nat} {f0 f1 f2 : Field} {v : Value} {d : DataW H} {p : List MemPlace} (hs : P.underlying s = some (.struct #[f0, f1, f2])) (h0 : f0.type = t ∧ f0.offset = 0) (h1 : f1.type = t ∧ f1.offset = 1) (h2 : f2.type = t ∧ f2.offset = 2) (h3 : P.cellsOf t = 1) (hC : P.cellsOf s = 3)
    (ht : P.underlying t = some (.slice e)) (he : P.underlying e = some (.int .i64)) (hc : P.cellsOf e = 1) (hv : Value.okWide P w r b0 s v) (h : DataW.Trod enc P w 0 (fun _ => true) held s v d p) :
    ∃ a0 c0 l0 a1 c1 l1 a2 c2 l2, v = .agg #[.slice a0 l0.length c0, .slice a1 l1.length c1, .slice a2 l2.length c2] ∧ (∃ v0, Ints w .i64 v0 a0 c0 l0) ∧ (∃ v1, Ints w .i64 v1 a1 c1 l1) ∧ (∃ v2, Ints w .i64 v2 a2 c2 l2) := by
  obtain ⟨cs, rfl, hsz⟩ := okWide_struct hs hv
  obtain ⟨v0, v1, v2, rfl⟩ := Joins.array3 (hsz.trans hC)
  obtain ⟨fuel, hf⟩ := h
  obtain ⟨⟨a0, c0, l0, i0⟩, ⟨a1, c1, l1, i1⟩, ⟨a2, c2, l2, i2⟩⟩ := read_heap hs h0 h1 h2 h3 ht he hc (by simpa [Value.cells] using hf)
  refine ⟨a0, c0, l0, a1, c1, l1, a2, c2, l2, ?_, ⟨v0, i0⟩, ⟨v1, i1⟩, ⟨v2, i2⟩⟩
  rw [i0.1, i1.1, i2.1]
theorem open_colored {t e s q : TypeId} {r : Reach} {b0 : Nat} {f0 f1 f2 g0 g1 : Field} {v : Value} {d : DataW H} {p : List MemPlace} (hs : P.underlying s = some (.struct #[f0, f1, f2])) (h0 : f0.type = t ∧ f0.offset = 0) (h1 : f1.type = t ∧ f1.offset = 1) (h2 : f2.type = t ∧ f2.offset = 2) (h3 : P.cellsOf t = 1) (hC : P.cellsOf s = 3)
    (hq : P.underlying q = some (.struct #[g0, g1])) (j0 : g0.type = s ∧ g0.offset = 0) (j1 : g1.type = t ∧ g1.offset = 3) (hQ : P.cellsOf q = 4)
    (ht : P.underlying t = some (.slice e)) (he : P.underlying e = some (.int .i64)) (hc : P.cellsOf e = 1) (hv : Value.okWide P w r b0 q v) (h : DataW.Trod enc P w 0 (fun _ => true) held q v d p) :
    ∃ a0 c0 l0 a1 c1 l1 a2 c2 l2 a3 c3 l3, v = .agg #[.slice a0 l0.length c0, .slice a1 l1.length c1, .slice a2 l2.length c2, .slice a3 l3.length c3] ∧ (∃ v0, Ints w .i64 v0 a0 c0 l0) ∧ (∃ v1, Ints w .i64 v1 a1 c1 l1) ∧ (∃ v2, Ints w .i64 v2 a2 c2 l2) ∧ (∃ v3, Ints w .i64 v3 a3 c3 l3) := by
  obtain ⟨cs, rfl, hsz⟩ := okWide_struct hq hv
  obtain ⟨v0, v1, v2, v3, rfl⟩ := Joins.array4 (hsz.trans hQ)
  obtain ⟨fuel, hf⟩ := h
  obtain ⟨xs, n, _, _, _, hlen, hg⟩ := DataW.trod_struct hq (by simpa [Value.cells] using hf)
  have k0 := hg 0 g0 rfl
  have k1 := hg 1 g1 rfl
  rw [j0.1, j0.2, hC] at k0
  rw [j1.1, j1.2, h3] at k1
  have hl : xs.length = 2 := hlen
  rw [List.getElem?_eq_getElem (by omega)] at k0 k1
  obtain ⟨⟨a0, c0, l0, i0⟩, ⟨a1, c1, l1, i1⟩, ⟨a2, c2, l2, i2⟩⟩ := read_heap hs h0 h1 h2 h3 ht he hc (by simpa using k0)
  obtain ⟨a3, c3, l3, i3⟩ := read_ints ht he hc (by simpa using k1)
  refine ⟨a0, c0, l0, a1, c1, l1, a2, c2, l2, a3, c3, l3, ?_, ⟨v0, i0⟩, ⟨v1, i1⟩, ⟨v2, i2⟩, ⟨v3, i3⟩⟩
  rw [i0.1, i1.1, i2.1, i3.1]
end
end Go.Proofs.YtomeaapjjmaepaaDoor.A
