/- Rows that are made: the runs, written out. -/
import Derived.Test.YtalfniohakahlaaX0
import Derived.Test.YtalfniohakahlaaLb
import Derived.Test.YtalfniohakahlaaNu
namespace Go.Proofs.Ytalfniohakahlaa.X
open Go.RowKit Go.Proofs.YtalfniohakahlaaW.PrintWords Go.Proofs.YtalfniohakahlaaW.PrintLast Go.Proofs.YtalfniohakahlaaW.PrintMore Go.Proofs.Ytalfniohakahlaa.Ma
set_option linter.unusedVariables false
theorem info_u64 : (Try.prog.info? 37).map (fun i => (i.zero, i.size, i.bytes)) = some (some (.int .u64 0), 1, 8) := by kernel_rfl
/-- Words of noughts, as make lays them. -/
def Zs (n : Nat) : Array Value := madeCells (Value.int .u64 0).cells n
theorem run_make_nat (n : Nat) (hn : n ≤ 35184372088832) (W : World) : (Instr.makeSlice 23 (.int .i64 (n : Int)) (.int .i64 (n : Int))).run Try.prog W = .ok (.slice (some ⟨W.heap.size, 0, none⟩) n n) (W.alloc (.cells (Zs n) 37)) := by
  obtain ⟨i0, hi, hz, hs, hb⟩ := info_parts info_u64
  have h := run_make (P := Try.prog) W 23 37 i0 (.int .u64 0) Try.underlying23 hi hz .i64 .i64 (n : Int) (n : Int) (by omega) (by omega) (by rw [hb]; omega) (by omega)
  rw [hs, Nat.mul_one, Int.toNat_natCast] at h
  exact h
theorem Zs_size (n : Nat) : (Zs n).size = n := size_madeCells _ _
theorem Zs_list (n : Nat) : (Zs n).toList = encs (Value.int .u64) (List.replicate n 0) := by
  apply List.ext_getElem
  · simp [Zs_size, encs]
  · intro i h1 h2
    simp [Zs, madeCells, encs, Value.cells, Nat.mod_one]
theorem R_zs {W : World} {g base n : Nat} {ok : Nat → Prop} (h : W.heap[g]? = some (.cells (Zs n) 37 (0, 0))) (hb : base ≤ g) (hn : n ≤ 35184372088832) (hok : ok g) :
    Kd.R (Kd.int .u64) 37 W base ok (.slice (some ⟨g, 0, none⟩) n n) (List.replicate n 0) := by
  have e : (List.replicate n (0 : Int)).length = n := List.length_replicate
  have ho : W.ownsRow base 37 1 (.slice (some ⟨g, 0, none⟩) (List.replicate n (0 : Int)).length n) (List.replicate n (0 : Int)).length (encs (Value.int .u64) (List.replicate n (0 : Int))) := by
    rw [e]
    refine ⟨by simp [encs], .inr ⟨g, n, Zs n, rfl, hb, h, Nat.le_refl _, by unfold maxLen; omega, by rw [Zs_size, Nat.mul_one], ?_⟩⟩
    rw [Zs_list, List.take_of_length_le (by simp [encs])]
  have h2 := Kd.R_of_own (h1 := fun _ => rfl) (ok := ok) ho (fun k hk => (show g = k by simpa [Value.ownBlock] using hk) ▸ hok)
  rw [e] at h2
  exact h2
theorem run_shr64 (x : Int) (s : Nat) (hs : s < 64) : ∀ W : World, (Op.shift BinOp.shr .u64 x .i64 (s : Int)).run Try.prog W = .ok (.int .u64 (x / 2 ^ s)) W := by
  intro W
  unfold Op.shift
  simp [go_sem]
  rw [if_neg (by omega), Nat.min_eq_left (by omega), Int.fdiv_eq_ediv_of_nonneg _ (Int.le_of_lt (Int.pow_pos (by decide)))]
theorem run_shl64 (x : Int) (s : Nat) (hs : s < 64) : ∀ W : World, (Op.shift BinOp.shl .u64 x .i64 (s : Int)).run Try.prog W = .ok (.int .u64 (IntKind.u64.wrap (x * 2 ^ s))) W := by
  intro W
  unfold Op.shift
  simp [go_sem]
  rw [if_neg (by omega), Nat.min_eq_left (by omega)]
end Go.Proofs.Ytalfniohakahlaa.X
