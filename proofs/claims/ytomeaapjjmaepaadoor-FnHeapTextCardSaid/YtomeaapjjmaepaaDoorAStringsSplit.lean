/- Contracts of functions of the given program (AStringsSplit). No conditions beyond those stated. -/
import Derived.Test.YtomeaapjjmaepaaDoorA0
namespace Go.Proofs.YtomeaapjjmaepaaDoor.A
open Go.RowKit Go.Proofs.YtomeaapjjmaepaaDoorW.PrintWords Go.Proofs.YtomeaapjjmaepaaDoorW.PrintLast Go.Proofs.YtomeaapjjmaepaaDoorW.PrintMore
attribute [local go_sem] max2_int min2_int max_two min_two max_three min_three max_four min_four   -- for this text's walks alone
set_option linter.unusedVariables false
set_option linter.unusedSimpArgs false

/-! ### strings_Split -/
/-- The numbers of the library's functions, types and variables in this program. -/
def splitRen : Go.Shelf.Ren := ⟨fun | 146 => 28 | 221 => 45 | 268 => 51 | 138 => 52 | 143 => 53 | 195 => 56 | 197 => 57 | 218 => 58 | 219 => 59 | 260 => 61 | 217 => 62 | 225 => 63 | 224 => 64 | 267 => 65 | 266 => 70 | 314 => 71 | n => n, fun | 9 => 9 | 31 => 43 | 3 => 3 | 4 => 4 | 0 => 0 | 105 => 71 | 21 => 21 | 5 => 5 | 46 => 75 | 119 => 82 | 139 => 85 | 138 => 84 | 146 => 87 | 51 => 86 | n => n, fun | 1 => 0 | 3 => 1 | 4 => 2 | n => n⟩
theorem splitLays : Lays.n146 Tryd.prog splitRen := { mixed := by kernel_rfl, f138 := Tryd.func52.trans (congrArg some (by kernel_rfl)), f143 := Tryd.func53.trans (congrArg some (by kernel_rfl)), f146 := Tryd.func28.trans (congrArg some (by kernel_rfl)), f195 := Tryd.func56.trans (congrArg some (by kernel_rfl)), f197 := Tryd.func57.trans (congrArg some (by kernel_rfl)), f217 := Tryd.func62.trans (congrArg some (by kernel_rfl)), f218 := Tryd.func58.trans (congrArg some (by kernel_rfl)), f219 := Tryd.func59.trans (congrArg some (by kernel_rfl)), f221 := Tryd.func45.trans (congrArg some (by kernel_rfl)), f224 := Tryd.func64.trans (congrArg some (by kernel_rfl)), f225 := Tryd.func63.trans (congrArg some (by kernel_rfl)), f260 := Tryd.func61.trans (congrArg some (by kernel_rfl)), f266 := Tryd.func70.trans (congrArg some (by kernel_rfl)), f267 := Tryd.func65.trans (congrArg some (by kernel_rfl)), f268 := Tryd.func51.trans (congrArg some (by kernel_rfl)), f314 := Tryd.func71.trans (congrArg some (by kernel_rfl)), t0 := Tryd.underlying0, a0 := Tryd.isAgg0, z0 := Tryd.sizeOf0, v0 := Tryd.zeroValue0, t3 := Tryd.underlying3, a3 := Tryd.isAgg3, z3 := Tryd.sizeOf3, v3 := Tryd.zeroValue3, t4 := Tryd.underlying4, a4 := Tryd.isAgg4, z4 := Tryd.sizeOf4, v4 := Tryd.zeroValue4, t5 := Tryd.underlying5, a5 := Tryd.isAgg5, z5 := Tryd.sizeOf5, v5 := Tryd.zeroValue5, t9 := Tryd.underlying9, a9 := Tryd.isAgg9, z9 := Tryd.sizeOf9, v9 := Tryd.zeroValue9, t21 := Tryd.underlying21, a21 := Tryd.isAgg21, z21 := Tryd.sizeOf21, v21 := Tryd.zeroValue21, t31 := Tryd.underlying43, a31 := Tryd.isAgg43, z31 := Tryd.sizeOf43, v31 := Tryd.zeroValue43, t46 := Tryd.underlying75, a46 := Tryd.isAgg75, z46 := Tryd.sizeOf75, v46 := Tryd.zeroValue75, t51 := Tryd.underlying86, a51 := Tryd.isAgg86, z51 := Tryd.sizeOf86, v51 := Tryd.zeroValue86, t105 := Tryd.underlying71, a105 := Tryd.isAgg71, z105 := Tryd.sizeOf71, v105 := Tryd.zeroValue71, t119 := Tryd.underlying82, a119 := Tryd.isAgg82, z119 := Tryd.sizeOf82, t138 := Tryd.underlying84, a138 := Tryd.isAgg84, z138 := Tryd.sizeOf84, v138 := Tryd.zeroValue84, t139 := Tryd.underlying85, a139 := Tryd.isAgg85, z139 := Tryd.sizeOf85, v139 := Tryd.zeroValue85, t146 := Tryd.underlying87, a146 := Tryd.isAgg87, z146 := Tryd.sizeOf87, v146 := Tryd.zeroValue87, g1 := by kernel_rfl, g3 := by kernel_rfl, g4 := by kernel_rfl }
def strings_Split.f (a0 : ByteArray) (a1 : ByteArray) : Option (List ByteArray) := if a1.size = 1 ∧ a0.size ≤ 1048576 then some (Go.Lib.splitB a1 0 (Go.Lib.countB a0 a1) a0) else none
theorem split_calls (s : ByteArray) (c : UInt8) (w : World) (hs : s.size < 4294967281) :
    Calls Tryd.prog 28 #[.string s, .string ⟨#[c]⟩] w fun e w' => e = .returned (.slice (some ⟨w.heap.size, 0, none⟩) (Go.Lib.countB s ⟨#[c]⟩ + 1) (Go.Lib.countB s ⟨#[c]⟩ + 1)) ∧ w' = w.alloc (.cells ((Go.Lib.splitB ⟨#[c]⟩ 0 (Go.Lib.countB s ⟨#[c]⟩) s).map Value.string).toArray 9) := by
  have L := splitLays
  have h1 : 1 ≤ (⟨#[c]⟩ : ByteArray).size := Nat.le_refl 1
  have hle := Go.Lib.countB_le ⟨#[c]⟩ h1 s.size s (Nat.le_refl _)
  have hlen := Go.Lib.splitB_all ⟨#[c]⟩ h1 0 _ s rfl
  have hi9 : (Tryd.prog.info? (splitRen.t 9)).map (fun i => (i.zero, i.size, i.bytes)) = some (some (.string ByteArray.empty), 1, 16) := by kernel_rfl
  have hC : Calls Tryd.prog (splitRen.f 138) #[.string s, .string ⟨#[c]⟩] w fun e w' => e = .returned (.int .i64 (Go.Lib.countB s ⟨#[c]⟩)) ∧ w' = w := by
    refine (Any.strings_Count_one { L with } s c w).mono fun e w' ⟨he, hw⟩ => ⟨?_, hw⟩
    rw [he]
    show _ = Ending.returned (Value.int .i64 ((Go.Lib.count s.data.toList [c] : Nat) : Int))
    rw [Go.Lib.count_one]
    rfl
  have hI : ∀ (x : ByteArray) (d : Array Value), x.size ≤ s.size → Calls Tryd.prog (splitRen.f 143) #[.string x, .string ⟨#[c]⟩] (w.alloc (.cells d (splitRen.t 9))) fun e w' => e = .returned (.int .i64 (Go.Lib.indexB x ⟨#[c]⟩)) ∧ w' = w.alloc (.cells d (splitRen.t 9)) := fun x d _ => by
    refine (Any.strings_Index_one { L with } x c _).mono fun e w' ⟨he, hw⟩ => ⟨?_, hw⟩
    rw [he]
    show _ = Ending.returned (Value.int .i64 (Go.Lib.index x.data.toList [c]))
    rw [Go.Lib.index_one]
  have cc := Any.strings_genSplit_core { L with } hi9 s ⟨#[c]⟩ 0 (-1) (Go.Lib.countB s ⟨#[c]⟩ + 1) w hs h1 (Nat.zero_le _) hI hC (by decide) (by decide) (by rw [if_pos (by decide)]; omega)
  rw [Nat.add_sub_cancel, hlen] at cc
  have e2 : Go.Lib.cellsOf (Go.Lib.splitB ⟨#[c]⟩ 0 (Go.Lib.countB s ⟨#[c]⟩) s) (Go.Lib.countB s ⟨#[c]⟩ + 1) = ((Go.Lib.splitB ⟨#[c]⟩ 0 (Go.Lib.countB s ⟨#[c]⟩) s).map Value.string).toArray := by rw [← hlen]; exact Go.Lib.cellsOf_full _
  rw [e2] at cc
  have t3 := L.t3; have t9 := L.t9; have t31 := L.t31
  have a3 := L.a3; have a9 := L.a9; have a31 := L.a31
  have z3 := L.z3; have v3 := L.v3; have z9 := L.z9; have v9 := L.v9; have z31 := L.z31; have v31 := L.v31
  have e221 : ∀ args w, (callFunc (splitRen.f 221) args).run Tryd.prog w = .ok (.enter (splitRen.f 221) args) w := enters_of L.f221 (by kernel_rfl) rfl
  go_enter L.f146, Body.n146_ntmps splitRen
  go_wp2_with (go_at_fn (splitRen.f 221); refine cc.mono ?_; rintro e w' ⟨rfl, hw⟩; rw [hw])
  go_ret
  exact ⟨rfl, rfl⟩
theorem split_R (w : World) (xs : List ByteArray) (hl : xs.length ≤ 2000000) : Kd.R Kd.string 9 (w.alloc (.cells (xs.map Value.string).toArray 9)) w.heap.size (fun _ => True) (.slice (some ⟨w.heap.size, 0, none⟩) xs.length xs.length) xs := by
  have e : encs Value.string xs = xs.map Value.string := rfl
  refine Kd.R_of_own (h1 := fun _ => rfl) ?_ (fun _ _ => trivial)
  rw [e]
  refine ⟨?_, .inr ⟨w.heap.size, xs.length, (xs.map Value.string).toArray, rfl, Nat.le_refl _, blk_new w _, Nat.le_refl _, by unfold maxLen; omega, ?_, ?_⟩⟩
  · simp
  · simp
  · exact List.take_of_length_le (by simp)
theorem strings_Split.calls (a0 : ByteArray) (a1 : ByteArray) (r : List ByteArray) (w : World) (h : strings_Split.f a0 a1 = some r) :
    Calls Tryd.prog 28 #[.string a0, .string a1] w fun e w' => ∃ v0_ : Value, e = .returned (v0_) ∧ Kd.R Kd.string 9 w' w.heap.size (fun _ => True) v0_ r ∧ Below w.heap.size w w' := by
  unfold strings_Split.f at h
  by_cases g : a1.size = 1 ∧ a0.size ≤ 1048576
  · rw [if_pos g] at h
    obtain rfl := Option.some.inj h
    obtain ⟨c, rfl⟩ := Go.Lib.one_byte a1 g.1
    have h1 : 1 ≤ (⟨#[c]⟩ : ByteArray).size := Nat.le_refl 1
    have hle := Go.Lib.countB_le ⟨#[c]⟩ h1 a0.size a0 (Nat.le_refl _)
    have hlen := Go.Lib.splitB_all ⟨#[c]⟩ h1 0 _ a0 rfl
    refine (split_calls a0 c w (by omega)).mono ?_
    rintro e w' ⟨rfl, rfl⟩
    have hR := split_R w (Go.Lib.splitB ⟨#[c]⟩ 0 (Go.Lib.countB a0 ⟨#[c]⟩) a0) (by omega)
    rw [hlen] at hR
    exact ⟨_, rfl, hR, below_alloc (Below.refl _ _) _⟩
  · rw [if_neg g] at h; exact absurd h (by simp)

end Go.Proofs.YtomeaapjjmaepaaDoor.A
