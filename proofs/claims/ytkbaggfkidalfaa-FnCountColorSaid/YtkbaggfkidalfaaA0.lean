/- Contracts of functions of the given program (A0). No conditions beyond those stated. -/
import Derived.Test.YtkbaggfkidalfaaProg
import Derived.Below
import Derived.Deep.Draws
import Derived.Deep.AppendLies
import Derived.Maps.AppendAt
import Derived.OwnWalk
import Derived.Laws.BytesArg
import Derived.Laws.MakeOwn
import Derived.Laws.OwnMore
import Derived.Deep.OwnRows
import Derived.Tactics
import Derived.Lib.ConvBytes
import Derived.Laws.Slices
import Derived.WalkKit
import Derived.KernelRfl
import Derived.RowKit3
import Derived.Deep.LoopGhost
import Derived.Deep.QuietTactic
import Derived.BigQuiet
import Derived.WideLaws
import Derived.Deep.DeepCutAuto
import Derived.Deep.CutBlock
import Derived.Deep.RegionHeld3
import Derived.Laws.Rows
import Derived.Lib.AppendStr
import Derived.ArgAppend
import Derived.Laws.IdiomCopy
import Derived.OrdersHeld
import Derived.Laws.BitsLemmas
import Derived.RowKit
import Derived.StillTailTactics
import Derived.WalkSpells
import Derived.Laws.CopyOwn
import Derived.WalkLawsBesides
import Derived.Test.YtkbaggfkidalfaaV1
namespace Go.Proofs.Ytkbaggfkidalfaa.A
open Go.RowKit Go.Proofs.YtkbaggfkidalfaaW.PrintWords Go.Proofs.YtkbaggfkidalfaaW.PrintLast Go.Proofs.YtkbaggfkidalfaaW.PrintMore
attribute [local go_sem] max2_int min2_int max_two min_two max_three min_three max_four min_four   -- for this text's walks alone
set_option linter.unusedVariables false
set_option linter.unusedSimpArgs false




def errW : Option Int → Value
  | none => .nilIface
  | some c => .iface 0 (.int .i64 c)
theorem errW_none : errW none = .nilIface := rfl
theorem errW_some (c : Int) : errW (some c) = .iface 0 (.int .i64 c) := rfl

theorem info3 : (Try.prog.info? 3).map (fun i => (i.zero, i.size, i.bytes)) = some (some (.int .i64 0), 1, 8) := by kernel_rfl
theorem info4 : (Try.prog.info? 4).map (fun i => (i.zero, i.size, i.bytes)) = some (some (.bool false), 1, 1) := by kernel_rfl
theorem info5 : (Try.prog.info? 5).map (fun i => (i.zero, i.size, i.bytes)) = some (some (.int .u8 0), 1, 1) := by kernel_rfl
theorem info22 : (Try.prog.info? 22).map (fun i => (i.zero, i.size, i.bytes)) = some (some (.slice none 0 0), 1, 24) := by kernel_rfl
-- the values' own types
def rd_L1 (xs : List (List Int)) (i : Int) : (List Int) := xs.getD i.toNat ([] : List Int)
theorem at_L1 {w : World} {A : Option Addr} {n : Nat} {xs : List (List Int)} (h : Kd.C (Kd.slice 3 (Kd.int .i64)) w A n xs) (i : Int) (h0 : 0 ≤ i) (h1 : i < n) : ∃ ad A0 c0, A = some ad ∧ w.cell? (ad.add i.toNat) = some (.slice A0 (rd_L1 xs i).length c0) ∧ (rd_L1 xs i).length ≤ c0 ∧ (Kd.int .i64).C w A0 (rd_L1 xs i).length (rd_L1 xs i) := by
  obtain ⟨ad, c, e, _, hK, hc0⟩ := Kd.C_get h ([] : List Int) i h0 h1
  have hc : ∀ j u, c[j]? = some u → w.cell? (ad.add (i.toNat * 1 + j)) = some u := hc0
  obtain ⟨A0, c0, rfl, l0, g0⟩ := hK
  exact ⟨ad, A0, c0, e, by have hq := hc 0 _ rfl; rwa [Nat.mul_one, Nat.add_zero] at hq, l0, g0⟩


theorem far1 {α : Type} {d : Kd α} {e : Nat} {W : World} {base : Nat} {ok : Nat → Prop} {v : Value} {xs : List α} {g t : Nat} {cs : Array Value} (h : Kd.R d e W base ok v xs) (hb : W.heap[g]? = some (.cells cs t (0, 0))) (ht : ∀ q, q ∈ e :: d.E → q ≠ t) (u0 : Value) : Kd.R d e (W.setCell ⟨g, 0, none⟩ u0) base ok v xs :=
  Kd.R_mono (Kd.R_far (p := ⟨g, 0, none⟩) (Kd.R_types h hb ht) (fun _ hk => hk.2) u0) (fun _ h_ => h_.1)
theorem far2 {α : Type} {d : Kd α} {e : Nat} {W : World} {base : Nat} {ok : Nat → Prop} {v : Value} {xs : List α} {g t : Nat} {cs : Array Value} (h : Kd.R d e W base ok v xs) (hb : W.heap[g]? = some (.cells cs t (0, 0))) (ht : ∀ q, q ∈ e :: d.E → q ≠ t) (u0 u1 : Value) : Kd.R d e ((W.setCell ⟨g, 0, none⟩ u0).setCell ⟨g, 1, none⟩ u1) base ok v xs :=
  Kd.R_mono (Kd.R_far (p := ⟨g, 1, none⟩) (Kd.R_far (p := ⟨g, 0, none⟩) (Kd.R_types h hb ht) (fun _ hk => hk.2) u0) (fun _ hk => hk.2) u1) (fun _ h_ => h_.1)
theorem far3 {α : Type} {d : Kd α} {e : Nat} {W : World} {base : Nat} {ok : Nat → Prop} {v : Value} {xs : List α} {g t : Nat} {cs : Array Value} (h : Kd.R d e W base ok v xs) (hb : W.heap[g]? = some (.cells cs t (0, 0))) (ht : ∀ q, q ∈ e :: d.E → q ≠ t) (u0 u1 u2 : Value) : Kd.R d e (((W.setCell ⟨g, 0, none⟩ u0).setCell ⟨g, 1, none⟩ u1).setCell ⟨g, 2, none⟩ u2) base ok v xs :=
  Kd.R_mono (Kd.R_far (p := ⟨g, 2, none⟩) (Kd.R_far (p := ⟨g, 1, none⟩) (Kd.R_far (p := ⟨g, 0, none⟩) (Kd.R_types h hb ht) (fun _ hk => hk.2) u0) (fun _ hk => hk.2) u1) (fun _ hk => hk.2) u2) (fun _ h_ => h_.1)
theorem far4 {α : Type} {d : Kd α} {e : Nat} {W : World} {base : Nat} {ok : Nat → Prop} {v : Value} {xs : List α} {g t : Nat} {cs : Array Value} (h : Kd.R d e W base ok v xs) (hb : W.heap[g]? = some (.cells cs t (0, 0))) (ht : ∀ q, q ∈ e :: d.E → q ≠ t) (u0 u1 u2 u3 : Value) : Kd.R d e ((((W.setCell ⟨g, 0, none⟩ u0).setCell ⟨g, 1, none⟩ u1).setCell ⟨g, 2, none⟩ u2).setCell ⟨g, 3, none⟩ u3) base ok v xs :=
  Kd.R_mono (Kd.R_far (p := ⟨g, 3, none⟩) (Kd.R_far (p := ⟨g, 2, none⟩) (Kd.R_far (p := ⟨g, 1, none⟩) (Kd.R_far (p := ⟨g, 0, none⟩) (Kd.R_types h hb ht) (fun _ hk => hk.2) u0) (fun _ hk => hk.2) u1) (fun _ hk => hk.2) u2) (fun _ hk => hk.2) u3) (fun _ h_ => h_.1)

abbrev KL (W W' : World) : Prop := Below W.heap.size W W'
/-- Worlds that differ by new blocks and drawn orders. -/
def KQ (W W' : World) : Prop := KL W W'
instance kq0 (W : World) : Nonempty (KQ W W) := ⟨Below.refl _ _⟩
instance kq1 (W W' : World) (o : Obj) [i : Nonempty (KQ W W')] : Nonempty (KQ W (W'.alloc o)) := ⟨i.elim fun h => below_alloc h o⟩
instance kq2 (W W' : World) [i : Nonempty (KQ W W')] : Nonempty (KQ W W'.drew) := ⟨i.elim fun h => below_drew h⟩
instance kq3 (W W' : World) (m : Nat) [i : Nonempty (KQ W W')] : Nonempty (KQ W (W'.drewN m)) := ⟨i.elim fun h => pw_below_drewN h m⟩
theorem am {p : Prop} (h : p) : Aside0 p := ⟨h⟩
theorem rl {α : Type} {d : Kd α} {e base : Nat} {ok : Nat → Prop} {W W' : World} {v : Value} {xs : List α} (h : d.R e W base ok v xs) [i : Nonempty (KQ W W')] : d.R e W' base ok v xs := i.elim fun b => Kd.R_below h b
theorem kl {W W' : World} {g : Nat} {o : Obj} (h : W.heap[g]? = some o) [i : Nonempty (KQ W W')] : W'.heap[g]? = some o := i.elim fun b => blk_below h b
theorem cl {α : Type} {d : Kd α} {W W' : World} {A : Option Addr} {n : Nat} {xs : List α} (h : d.C W A n xs) [i : Nonempty (KQ W W')] : d.C W' A n xs := i.elim fun b => Kd.C_below h b
theorem bl {w W W' : World} (h : Below w.heap.size w W) [i : Nonempty (KQ W W')] : Below w.heap.size w W' := i.elim fun b => below_step h b

/-- Worlds that differ by new blocks, drawn orders and stores into the blocks of l. -/
def KB (l : List Nat) (W W' : World) : Prop := ∀ w : World, (∀ g ∈ l, w.heap.size ≤ g) → Below w.heap.size w W → Below w.heap.size w W'
instance kb0 (l : List Nat) (W : World) : Nonempty (KB l W W) := ⟨fun _ _ h => h⟩
instance kb1 (l : List Nat) (W W' : World) (o : Obj) [i : Nonempty (KB l W W')] : Nonempty (KB l W (W'.alloc o)) := i.elim fun b => ⟨fun w hl h => below_alloc (b w hl h) o⟩
instance kb2 (l : List Nat) (W W' : World) [i : Nonempty (KB l W W')] : Nonempty (KB l W W'.drew) := i.elim fun b => ⟨fun w hl h => below_drew (b w hl h)⟩
instance kb3 (l : List Nat) (W W' : World) (m : Nat) [i : Nonempty (KB l W W')] : Nonempty (KB l W (W'.drewN m)) := i.elim fun b => ⟨fun w hl h => pw_below_drewN (b w hl h) m⟩
instance kb4 (l : List Nat) (W W' : World) (g j : Nat) (v : Value) [i : Nonempty (KB l W W')] [e : Nonempty (g ∈ l)] : Nonempty (KB l W (W'.setCell ⟨g, j, none⟩ v)) := i.elim fun b => e.elim fun e => ⟨fun w hl h => below_set (b w hl h) (hl g e)⟩
instance inl0 (g : Nat) (l : List Nat) : Nonempty (g ∈ g :: l) := ⟨List.mem_cons_self⟩
instance inl1 (g x : Nat) (l : List Nat) [i : Nonempty (g ∈ l)] : Nonempty (g ∈ x :: l) := i.elim fun h => ⟨List.mem_cons_of_mem _ h⟩
/-- The same for what is kept but for block g. -/
def KK (l : List Nat) (g : Nat) (W W' : World) : Prop := ∀ w : World, (∀ x ∈ l, w.heap.size ≤ x) → KeepBut w W g none → KeepBut w W' g none
instance kk0 (l : List Nat) (g : Nat) (W : World) : Nonempty (KK l g W W) := ⟨fun _ _ h => h⟩
instance kk1 (l : List Nat) (g : Nat) (W W' : World) (o : Obj) [i : Nonempty (KK l g W W')] : Nonempty (KK l g W (W'.alloc o)) := i.elim fun b => ⟨fun w hl h => keep_alloc (b w hl h) o⟩
instance kk2 (l : List Nat) (g : Nat) (W W' : World) [i : Nonempty (KK l g W W')] : Nonempty (KK l g W W'.drew) := i.elim fun b => ⟨fun w hl h => keep_drew (b w hl h)⟩
instance kk3 (l : List Nat) (g : Nat) (W W' : World) (m : Nat) [i : Nonempty (KK l g W W')] : Nonempty (KK l g W (W'.drewN m)) := i.elim fun b => ⟨fun w hl h => keep_drewN (b w hl h) m⟩
instance kk4 (l : List Nat) (g : Nat) (W W' : World) (j : Nat) (v : Value) [i : Nonempty (KK l g W W')] : Nonempty (KK l g W (W'.setCell ⟨g, j, none⟩ v)) := i.elim fun b => ⟨fun w hl h => KeepBut.set_ (b w hl h) j v⟩
instance kk5 (l : List Nat) (g x : Nat) (W W' : World) (j : Nat) (v : Value) [i : Nonempty (KK l g W W')] [e : Nonempty (x ∈ l)] : Nonempty (KK l g W (W'.setCell ⟨x, j, none⟩ v)) := i.elim fun b => e.elim fun e => ⟨fun w hl h => keep_far (b w hl h) (hl x e) v⟩
/-- Block g is the same behind new blocks, drawn orders and stores into the blocks of l. -/
def GB (l : List Nat) (g : Nat) (W W' : World) : Prop := (∀ x ∈ l, g ≠ x) → ∀ o, W.heap[g]? = some o → W'.heap[g]? = some o
instance gb0 (l : List Nat) (g : Nat) (W : World) : Nonempty (GB l g W W) := ⟨fun _ _ h => h⟩
instance gb1 (l : List Nat) (g : Nat) (W W' : World) (o : Obj) [i : Nonempty (GB l g W W')] : Nonempty (GB l g W (W'.alloc o)) := i.elim fun b => ⟨fun hl _ h => blk_alloc (b hl _ h) o⟩
instance gb2 (l : List Nat) (g : Nat) (W W' : World) [i : Nonempty (GB l g W W')] : Nonempty (GB l g W W'.drew) := i.elim fun b => ⟨fun hl _ h => blk_drew (b hl _ h)⟩
instance gb3 (l : List Nat) (g : Nat) (W W' : World) (m : Nat) [i : Nonempty (GB l g W W')] : Nonempty (GB l g W (W'.drewN m)) := i.elim fun b => ⟨fun hl _ h => blk_drewN (b hl _ h) m⟩
instance gb4 (l : List Nat) (g x : Nat) (W W' : World) (j : Nat) (v : Value) [i : Nonempty (GB l g W W')] [e : Nonempty (x ∈ l)] : Nonempty (GB l g W (W'.setCell ⟨x, j, none⟩ v)) := i.elim fun b => e.elim fun e => ⟨fun hl _ h => (Below.heap_setCell _ _ _ g (hl x e)).trans (b hl _ h)⟩
/-- A row is the same behind new blocks, drawn orders and stores into the blocks of l. -/
def RB (l : List Nat) (W W' : World) : Prop := ∀ (α : Type) (d : Kd α) (e base : Nat) (ok : Nat → Prop) (v : Value) (xs : List α), (∀ k, ok k → ∀ x ∈ l, k ≠ x) → d.R e W base ok v xs → d.R e W' base ok v xs
instance rb0 (l : List Nat) (W : World) : Nonempty (RB l W W) := ⟨fun _ _ _ _ _ _ _ _ h => h⟩
instance rb1 (l : List Nat) (W W' : World) (o : Obj) [i : Nonempty (RB l W W')] : Nonempty (RB l W (W'.alloc o)) := i.elim fun b => ⟨fun _ _ _ _ _ _ _ hl h => Kd.R_alloc (b _ _ _ _ _ _ _ hl h) o⟩
instance rb2 (l : List Nat) (W W' : World) [i : Nonempty (RB l W W')] : Nonempty (RB l W W'.drew) := i.elim fun b => ⟨fun _ _ _ _ _ _ _ hl h => Kd.R_drew (b _ _ _ _ _ _ _ hl h)⟩
instance rb3 (l : List Nat) (W W' : World) (m : Nat) [i : Nonempty (RB l W W')] : Nonempty (RB l W (W'.drewN m)) := i.elim fun b => ⟨fun _ _ _ _ _ _ _ hl h => Kd.R_drewN (b _ _ _ _ _ _ _ hl h) m⟩
instance rb4 (l : List Nat) (W W' : World) (g j : Nat) (v : Value) [i : Nonempty (RB l W W')] [e : Nonempty (g ∈ l)] : Nonempty (RB l W (W'.setCell ⟨g, j, none⟩ v)) := i.elim fun b => e.elim fun e => ⟨fun _ _ _ _ _ _ _ hl h => Kd.R_far (p := ⟨g, j, none⟩) (b _ _ _ _ _ _ _ hl h) (fun k hk => hl k hk g e) v⟩
theorem rf1 {α : Type} {d : Kd α} {e base t g : Nat} {ok : Nat → Prop} {W W' : World} {v : Value} {xs : List α} {cs : Array Value} (hb : W.heap[g]? = some (.cells cs t (0, 0))) (h : d.R e W base ok v xs) (ht : ∀ q, q ∈ e :: d.E → q ≠ t := by decide) [i : Nonempty (RB [g] W W')] : d.R e W' base ok v xs :=
  Kd.R_mono (i.elim fun b => b _ _ _ _ _ _ _ (fun k hk x hx => by rw [List.mem_singleton.1 hx]; exact hk.2) (Kd.R_types h hb ht)) (fun _ hk => hk.1)
theorem R_re {k : IntKind} {e base : Nat} {w : World} {ok ok' : Nat → Prop} {v : Value} {xs : List Int} (h : (Kd.int k).R e w base ok v xs) (h2 : ∀ k, v.ownBlock = some k → ok' k) : (Kd.int k).R e w base ok' v xs := ⟨h2, h.2.imp_ (fun _ _ hp => hp)⟩
theorem kp3 {W : World} {g t : Nat} {x y z a b c : Value} (h : W.heap[g]? = some (.cells #[x, y, z] t (0, 0))) : (((W.setCell ⟨g, 0, none⟩ a).setCell ⟨g, 1, none⟩ b).setCell ⟨g, 2, none⟩ c).heap[g]? = some (.cells #[a, b, c] t (0, 0)) := blk_put (blk_put (blk_put h 0 a rfl) 1 b rfl) 2 c rfl
theorem kp43 {W : World} {g t : Nat} {x y z u a b c : Value} (h : W.heap[g]? = some (.cells #[x, y, z, u] t (0, 0))) : (((W.setCell ⟨g, 0, none⟩ a).setCell ⟨g, 1, none⟩ b).setCell ⟨g, 2, none⟩ c).heap[g]? = some (.cells #[a, b, c, u] t (0, 0)) := blk_put (blk_put (blk_put h 0 a rfl) 1 b rfl) 2 c rfl
theorem kp4 {W : World} {g t : Nat} {x y z u a b c f : Value} (h : W.heap[g]? = some (.cells #[x, y, z, u] t (0, 0))) : ((((W.setCell ⟨g, 0, none⟩ a).setCell ⟨g, 1, none⟩ b).setCell ⟨g, 2, none⟩ c).setCell ⟨g, 3, none⟩ f).heap[g]? = some (.cells #[a, b, c, f] t (0, 0)) := blk_put (blk_put (blk_put (blk_put h 0 a rfl) 1 b rfl) 2 c rfl) 3 f rfl
theorem bs0 {w W W' : World}  (h : Below w.heap.size w W) [i : Nonempty (KB [] W W')] : Below w.heap.size w W' := i.elim fun b => b w (by intro x hx; exact absurd hx (List.not_mem_nil)) h
theorem ks0 {w W W' : World} {g : Nat}  (h : KeepBut w W g none) [i : Nonempty (KK [] g W W')] : KeepBut w W' g none := i.elim fun b => b w (by intro x hx; exact absurd hx (List.not_mem_nil)) h
theorem kf0 {W W' : World} {g : Nat} {o : Obj}  (h : W.heap[g]? = some o) [i : Nonempty (GB [] g W W')] : W'.heap[g]? = some o := i.elim fun b => b (by intro x hx; exact absurd hx (List.not_mem_nil)) o h
theorem bs1 {w W W' : World} {g1 : Nat} (e1 : w.heap.size ≤ g1) (h : Below w.heap.size w W) [i : Nonempty (KB [g1] W W')] : Below w.heap.size w W' := i.elim fun b => b w (by intro x hx; simp only [List.mem_cons, List.not_mem_nil, or_false] at hx; subst hx; assumption) h
theorem ks1 {w W W' : World} {g : Nat} {g1 : Nat} (e1 : w.heap.size ≤ g1) (h : KeepBut w W g none) [i : Nonempty (KK [g1] g W W')] : KeepBut w W' g none := i.elim fun b => b w (by intro x hx; simp only [List.mem_cons, List.not_mem_nil, or_false] at hx; subst hx; assumption) h
theorem kf1 {W W' : World} {g : Nat} {o : Obj} {g1 : Nat} (e1 : g ≠ g1) (h : W.heap[g]? = some o) [i : Nonempty (GB [g1] g W W')] : W'.heap[g]? = some o := i.elim fun b => b (by intro x hx; simp only [List.mem_cons, List.not_mem_nil, or_false] at hx; subst hx; assumption) o h
theorem bs2 {w W W' : World} {g1 g2 : Nat} (e1 : w.heap.size ≤ g1) (e2 : w.heap.size ≤ g2) (h : Below w.heap.size w W) [i : Nonempty (KB [g1, g2] W W')] : Below w.heap.size w W' := i.elim fun b => b w (by intro x hx; simp only [List.mem_cons, List.not_mem_nil, or_false] at hx; rcases hx with rfl | rfl <;> assumption) h
theorem ks2 {w W W' : World} {g : Nat} {g1 g2 : Nat} (e1 : w.heap.size ≤ g1) (e2 : w.heap.size ≤ g2) (h : KeepBut w W g none) [i : Nonempty (KK [g1, g2] g W W')] : KeepBut w W' g none := i.elim fun b => b w (by intro x hx; simp only [List.mem_cons, List.not_mem_nil, or_false] at hx; rcases hx with rfl | rfl <;> assumption) h
theorem kf2 {W W' : World} {g : Nat} {o : Obj} {g1 g2 : Nat} (e1 : g ≠ g1) (e2 : g ≠ g2) (h : W.heap[g]? = some o) [i : Nonempty (GB [g1, g2] g W W')] : W'.heap[g]? = some o := i.elim fun b => b (by intro x hx; simp only [List.mem_cons, List.not_mem_nil, or_false] at hx; rcases hx with rfl | rfl <;> assumption) o h
theorem bs3 {w W W' : World} {g1 g2 g3 : Nat} (e1 : w.heap.size ≤ g1) (e2 : w.heap.size ≤ g2) (e3 : w.heap.size ≤ g3) (h : Below w.heap.size w W) [i : Nonempty (KB [g1, g2, g3] W W')] : Below w.heap.size w W' := i.elim fun b => b w (by intro x hx; simp only [List.mem_cons, List.not_mem_nil, or_false] at hx; rcases hx with rfl | rfl | rfl <;> assumption) h
theorem ks3 {w W W' : World} {g : Nat} {g1 g2 g3 : Nat} (e1 : w.heap.size ≤ g1) (e2 : w.heap.size ≤ g2) (e3 : w.heap.size ≤ g3) (h : KeepBut w W g none) [i : Nonempty (KK [g1, g2, g3] g W W')] : KeepBut w W' g none := i.elim fun b => b w (by intro x hx; simp only [List.mem_cons, List.not_mem_nil, or_false] at hx; rcases hx with rfl | rfl | rfl <;> assumption) h
theorem kf3 {W W' : World} {g : Nat} {o : Obj} {g1 g2 g3 : Nat} (e1 : g ≠ g1) (e2 : g ≠ g2) (e3 : g ≠ g3) (h : W.heap[g]? = some o) [i : Nonempty (GB [g1, g2, g3] g W W')] : W'.heap[g]? = some o := i.elim fun b => b (by intro x hx; simp only [List.mem_cons, List.not_mem_nil, or_false] at hx; rcases hx with rfl | rfl | rfl <;> assumption) o h
theorem bs4 {w W W' : World} {g1 g2 g3 g4 : Nat} (e1 : w.heap.size ≤ g1) (e2 : w.heap.size ≤ g2) (e3 : w.heap.size ≤ g3) (e4 : w.heap.size ≤ g4) (h : Below w.heap.size w W) [i : Nonempty (KB [g1, g2, g3, g4] W W')] : Below w.heap.size w W' := i.elim fun b => b w (by intro x hx; simp only [List.mem_cons, List.not_mem_nil, or_false] at hx; rcases hx with rfl | rfl | rfl | rfl <;> assumption) h
theorem ks4 {w W W' : World} {g : Nat} {g1 g2 g3 g4 : Nat} (e1 : w.heap.size ≤ g1) (e2 : w.heap.size ≤ g2) (e3 : w.heap.size ≤ g3) (e4 : w.heap.size ≤ g4) (h : KeepBut w W g none) [i : Nonempty (KK [g1, g2, g3, g4] g W W')] : KeepBut w W' g none := i.elim fun b => b w (by intro x hx; simp only [List.mem_cons, List.not_mem_nil, or_false] at hx; rcases hx with rfl | rfl | rfl | rfl <;> assumption) h
theorem kf4 {W W' : World} {g : Nat} {o : Obj} {g1 g2 g3 g4 : Nat} (e1 : g ≠ g1) (e2 : g ≠ g2) (e3 : g ≠ g3) (e4 : g ≠ g4) (h : W.heap[g]? = some o) [i : Nonempty (GB [g1, g2, g3, g4] g W W')] : W'.heap[g]? = some o := i.elim fun b => b (by intro x hx; simp only [List.mem_cons, List.not_mem_nil, or_false] at hx; rcases hx with rfl | rfl | rfl | rfl <;> assumption) o h
theorem bs5 {w W W' : World} {g1 g2 g3 g4 g5 : Nat} (e1 : w.heap.size ≤ g1) (e2 : w.heap.size ≤ g2) (e3 : w.heap.size ≤ g3) (e4 : w.heap.size ≤ g4) (e5 : w.heap.size ≤ g5) (h : Below w.heap.size w W) [i : Nonempty (KB [g1, g2, g3, g4, g5] W W')] : Below w.heap.size w W' := i.elim fun b => b w (by intro x hx; simp only [List.mem_cons, List.not_mem_nil, or_false] at hx; rcases hx with rfl | rfl | rfl | rfl | rfl <;> assumption) h
theorem ks5 {w W W' : World} {g : Nat} {g1 g2 g3 g4 g5 : Nat} (e1 : w.heap.size ≤ g1) (e2 : w.heap.size ≤ g2) (e3 : w.heap.size ≤ g3) (e4 : w.heap.size ≤ g4) (e5 : w.heap.size ≤ g5) (h : KeepBut w W g none) [i : Nonempty (KK [g1, g2, g3, g4, g5] g W W')] : KeepBut w W' g none := i.elim fun b => b w (by intro x hx; simp only [List.mem_cons, List.not_mem_nil, or_false] at hx; rcases hx with rfl | rfl | rfl | rfl | rfl <;> assumption) h
theorem kf5 {W W' : World} {g : Nat} {o : Obj} {g1 g2 g3 g4 g5 : Nat} (e1 : g ≠ g1) (e2 : g ≠ g2) (e3 : g ≠ g3) (e4 : g ≠ g4) (e5 : g ≠ g5) (h : W.heap[g]? = some o) [i : Nonempty (GB [g1, g2, g3, g4, g5] g W W')] : W'.heap[g]? = some o := i.elim fun b => b (by intro x hx; simp only [List.mem_cons, List.not_mem_nil, or_false] at hx; rcases hx with rfl | rfl | rfl | rfl | rfl <;> assumption) o h
theorem bs6 {w W W' : World} {g1 g2 g3 g4 g5 g6 : Nat} (e1 : w.heap.size ≤ g1) (e2 : w.heap.size ≤ g2) (e3 : w.heap.size ≤ g3) (e4 : w.heap.size ≤ g4) (e5 : w.heap.size ≤ g5) (e6 : w.heap.size ≤ g6) (h : Below w.heap.size w W) [i : Nonempty (KB [g1, g2, g3, g4, g5, g6] W W')] : Below w.heap.size w W' := i.elim fun b => b w (by intro x hx; simp only [List.mem_cons, List.not_mem_nil, or_false] at hx; rcases hx with rfl | rfl | rfl | rfl | rfl | rfl <;> assumption) h
theorem ks6 {w W W' : World} {g : Nat} {g1 g2 g3 g4 g5 g6 : Nat} (e1 : w.heap.size ≤ g1) (e2 : w.heap.size ≤ g2) (e3 : w.heap.size ≤ g3) (e4 : w.heap.size ≤ g4) (e5 : w.heap.size ≤ g5) (e6 : w.heap.size ≤ g6) (h : KeepBut w W g none) [i : Nonempty (KK [g1, g2, g3, g4, g5, g6] g W W')] : KeepBut w W' g none := i.elim fun b => b w (by intro x hx; simp only [List.mem_cons, List.not_mem_nil, or_false] at hx; rcases hx with rfl | rfl | rfl | rfl | rfl | rfl <;> assumption) h
theorem kf6 {W W' : World} {g : Nat} {o : Obj} {g1 g2 g3 g4 g5 g6 : Nat} (e1 : g ≠ g1) (e2 : g ≠ g2) (e3 : g ≠ g3) (e4 : g ≠ g4) (e5 : g ≠ g5) (e6 : g ≠ g6) (h : W.heap[g]? = some o) [i : Nonempty (GB [g1, g2, g3, g4, g5, g6] g W W')] : W'.heap[g]? = some o := i.elim fun b => b (by intro x hx; simp only [List.mem_cons, List.not_mem_nil, or_false] at hx; rcases hx with rfl | rfl | rfl | rfl | rfl | rfl <;> assumption) o h
theorem bs7 {w W W' : World} {g1 g2 g3 g4 g5 g6 g7 : Nat} (e1 : w.heap.size ≤ g1) (e2 : w.heap.size ≤ g2) (e3 : w.heap.size ≤ g3) (e4 : w.heap.size ≤ g4) (e5 : w.heap.size ≤ g5) (e6 : w.heap.size ≤ g6) (e7 : w.heap.size ≤ g7) (h : Below w.heap.size w W) [i : Nonempty (KB [g1, g2, g3, g4, g5, g6, g7] W W')] : Below w.heap.size w W' := i.elim fun b => b w (by intro x hx; simp only [List.mem_cons, List.not_mem_nil, or_false] at hx; rcases hx with rfl | rfl | rfl | rfl | rfl | rfl | rfl <;> assumption) h
theorem ks7 {w W W' : World} {g : Nat} {g1 g2 g3 g4 g5 g6 g7 : Nat} (e1 : w.heap.size ≤ g1) (e2 : w.heap.size ≤ g2) (e3 : w.heap.size ≤ g3) (e4 : w.heap.size ≤ g4) (e5 : w.heap.size ≤ g5) (e6 : w.heap.size ≤ g6) (e7 : w.heap.size ≤ g7) (h : KeepBut w W g none) [i : Nonempty (KK [g1, g2, g3, g4, g5, g6, g7] g W W')] : KeepBut w W' g none := i.elim fun b => b w (by intro x hx; simp only [List.mem_cons, List.not_mem_nil, or_false] at hx; rcases hx with rfl | rfl | rfl | rfl | rfl | rfl | rfl <;> assumption) h
theorem kf7 {W W' : World} {g : Nat} {o : Obj} {g1 g2 g3 g4 g5 g6 g7 : Nat} (e1 : g ≠ g1) (e2 : g ≠ g2) (e3 : g ≠ g3) (e4 : g ≠ g4) (e5 : g ≠ g5) (e6 : g ≠ g6) (e7 : g ≠ g7) (h : W.heap[g]? = some o) [i : Nonempty (GB [g1, g2, g3, g4, g5, g6, g7] g W W')] : W'.heap[g]? = some o := i.elim fun b => b (by intro x hx; simp only [List.mem_cons, List.not_mem_nil, or_false] at hx; rcases hx with rfl | rfl | rfl | rfl | rfl | rfl | rfl <;> assumption) o h
theorem bs8 {w W W' : World} {g1 g2 g3 g4 g5 g6 g7 g8 : Nat} (e1 : w.heap.size ≤ g1) (e2 : w.heap.size ≤ g2) (e3 : w.heap.size ≤ g3) (e4 : w.heap.size ≤ g4) (e5 : w.heap.size ≤ g5) (e6 : w.heap.size ≤ g6) (e7 : w.heap.size ≤ g7) (e8 : w.heap.size ≤ g8) (h : Below w.heap.size w W) [i : Nonempty (KB [g1, g2, g3, g4, g5, g6, g7, g8] W W')] : Below w.heap.size w W' := i.elim fun b => b w (by intro x hx; simp only [List.mem_cons, List.not_mem_nil, or_false] at hx; rcases hx with rfl | rfl | rfl | rfl | rfl | rfl | rfl | rfl <;> assumption) h
theorem ks8 {w W W' : World} {g : Nat} {g1 g2 g3 g4 g5 g6 g7 g8 : Nat} (e1 : w.heap.size ≤ g1) (e2 : w.heap.size ≤ g2) (e3 : w.heap.size ≤ g3) (e4 : w.heap.size ≤ g4) (e5 : w.heap.size ≤ g5) (e6 : w.heap.size ≤ g6) (e7 : w.heap.size ≤ g7) (e8 : w.heap.size ≤ g8) (h : KeepBut w W g none) [i : Nonempty (KK [g1, g2, g3, g4, g5, g6, g7, g8] g W W')] : KeepBut w W' g none := i.elim fun b => b w (by intro x hx; simp only [List.mem_cons, List.not_mem_nil, or_false] at hx; rcases hx with rfl | rfl | rfl | rfl | rfl | rfl | rfl | rfl <;> assumption) h
theorem kf8 {W W' : World} {g : Nat} {o : Obj} {g1 g2 g3 g4 g5 g6 g7 g8 : Nat} (e1 : g ≠ g1) (e2 : g ≠ g2) (e3 : g ≠ g3) (e4 : g ≠ g4) (e5 : g ≠ g5) (e6 : g ≠ g6) (e7 : g ≠ g7) (e8 : g ≠ g8) (h : W.heap[g]? = some o) [i : Nonempty (GB [g1, g2, g3, g4, g5, g6, g7, g8] g W W')] : W'.heap[g]? = some o := i.elim fun b => b (by intro x hx; simp only [List.mem_cons, List.not_mem_nil, or_false] at hx; rcases hx with rfl | rfl | rfl | rfl | rfl | rfl | rfl | rfl <;> assumption) o h

end Go.Proofs.Ytkbaggfkidalfaa.A
