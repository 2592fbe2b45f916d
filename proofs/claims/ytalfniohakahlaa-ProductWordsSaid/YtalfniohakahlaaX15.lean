-- Written by a program of this session (wip/tools/rp.py) out of the translation and the hand texts. Lean checks it.
import Derived.Test.YtalfniohakahlaaX0
import Derived.Test.YtalfniohakahlaaMw
namespace Go.Proofs.Ytalfniohakahlaa.X
open Go.RowKit Go.Proofs.YtalfniohakahlaaW.PrintWords Go.Proofs.YtalfniohakahlaaW.PrintLast Go.Proofs.YtalfniohakahlaaW.PrintMore
attribute [local go_sem] max2_int min2_int max_two min_two max_three min_three max_four min_four   -- for this text's walks alone
set_option linter.unusedVariables false
set_option linter.unusedSimpArgs false

/-! ### product_MulWord: function 25 -/
-- NEEDS Derived.Test.YtalfniohakahlaaMw
-- CALLS sconce/nat.Bits sconce/product.long sconce/word.Mul sconce/sconceref03.Nat sconce/sconceref03.Of sconce/sconceref03.Same sconce/sconceref03.Cmp sconce/sconceref03.Add sconce/sconceref03.Sub sconce/sconceref03.Mul sconce/sconceref03.Shl sconce/sconceref03.Shr sconce/sconceref03.Small sconce/sconceref05.long sconce/limbs.Sub sconce/limbs.Select
def product_MulWord.f (l1 : List Int) (x : Int) (l3 : List Int) : Option (List Int × Int) :=
  if (l1.all Ma.wd = true ∧ l3.all Ma.wd = true) ∧ 0 ≤ x ∧ x < 18446744073709551616 then
    if 300 < l1.length ∨ 300 < l3.length then some ([], 0)
    else some (Ma.dgs 18446744073709551616 (max l1.length l3.length) (Ma.num 18446744073709551616 l1 * x.toNat + Ma.num 18446744073709551616 l3), (((Ma.num 18446744073709551616 l1 * x.toNat + Ma.num 18446744073709551616 l3) / 18446744073709551616 ^ (max l1.length l3.length) : Nat) : Int))
  else none
theorem product_MulWord.calls (A1 : Option Addr) (c1 : Nat) (l1 : List Int) (a2 : Int) (A3 : Option Addr) (c3 : Nat) (l3 : List Int) (r1 : List Int) (r2 : Int) (w : World) (hr1 : Kd.C (Kd.int .u64) w A1 l1.length l1) (hc1 : l1.length ≤ c1) (hr3 : Kd.C (Kd.int .u64) w A3 l3.length l3) (hc3 : l3.length ≤ c3) (h : product_MulWord.f l1 a2 l3 = some (r1, r2)) :
    Calls Try.prog 25 #[.pointer none, .slice A1 l1.length c1, .int .u64 a2, .slice A3 l3.length c3] w fun e w' => ∃ v0_ : Value, e = .returned (.tuple #[v0_, .int .u64 r2]) ∧ Kd.R (Kd.int .u64) 37 w' w.heap.size (fun _ => True) v0_ r1 ∧ Below w.heap.size w w' := by
  unfold product_MulWord.f at h
  split at h
  · rename_i hc
    obtain ⟨⟨h1, h2⟩, h3, h4⟩ := hc
    split at h
    · rename_i hl
      simp only [Option.some.injEq, Prod.mk.injEq] at h
      obtain ⟨rfl, rfl⟩ := h
      exact product_MulWord_long A1 c1 l1 a2 A3 c3 l3 w hr1 hc1 hr3 hc3 hl
    · rename_i hl
      obtain ⟨x, rfl⟩ := Int.eq_ofNat_of_zero_le h3
      simp only [Option.some.injEq, Prod.mk.injEq, Int.toNat_natCast] at h
      obtain ⟨rfl, rfl⟩ := h
      exact product_MulWord_ok A1 c1 l1 x A3 c3 l3 w hr1 hc1 hr3 hc3 (Ma.wds_dg.1 h1) (Ma.wds_dg.1 h2) (by omega) (by omega) (by omega)
  · exact absurd h (by simp)

end Go.Proofs.Ytalfniohakahlaa.X
