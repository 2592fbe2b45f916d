-- Written by a program of this session (wip/tools/rp.py) out of the translation and the hand texts. Lean checks it.
import Derived.Test.YtalfniohakahlaaX0
import Derived.Test.YtalfniohakahlaaDw
namespace Go.Proofs.Ytalfniohakahlaa.X
open Go.RowKit Go.Proofs.YtalfniohakahlaaW.PrintWords Go.Proofs.YtalfniohakahlaaW.PrintLast Go.Proofs.YtalfniohakahlaaW.PrintMore
attribute [local go_sem] max2_int min2_int max_two min_two max_three min_three max_four min_four   -- for this text's walks alone
set_option linter.unusedVariables false
set_option linter.unusedSimpArgs false

/-! ### product_Divide: function 30 -/
-- NEEDS Derived.Test.YtalfniohakahlaaDw
-- CALLS sconce/nat.Bits sconce/product.long sconce/limbs.Left sconce/limbs.Sub sconce/limbs.Select sconce/sconceref03.Of sconce/sconceref03.Nat sconce/sconceref03.Same sconce/sconceref03.Cmp sconce/sconceref03.Add sconce/sconceref03.Sub sconce/sconceref03.Mul sconce/sconceref03.Shl sconce/sconceref03.Shr sconce/sconceref03.Small sconce/sconceref03.trim sconce/sconceref03.digit sconce/sconceref03.divSmall sconce/word.Mul sconce/word.Add sconce/word.Sub sconce/word.Select sconce/word.Mask sconce/sconceref01.One sconce/sconceref05.long sconce/nat.Compare sconce/nat.Word sconce/nat.at
def product_Divide.f (l1 l2 : List Int) : Option (List Int × List Int × Int) :=
  if (l1.all Ma.wd = true ∧ l2.all Ma.wd = true) ∧ l1.length ≤ 1000000 ∧ l2.length ≤ 1000000 then
    if 300 < l1.length ∨ 300 < l2.length then some ([], [], 2)
    else if Ma.num 18446744073709551616 l2 = 0 then some ([], [], 1)
    else some (Ma.dgs 18446744073709551616 l1.length (Ma.num 18446744073709551616 l1 / Ma.num 18446744073709551616 l2), Ma.dgs 18446744073709551616 l2.length (Ma.num 18446744073709551616 l1 % Ma.num 18446744073709551616 l2), 0)
  else none
theorem product_Divide.calls (A1 : Option Addr) (c1 : Nat) (l1 : List Int) (A2 : Option Addr) (c2 : Nat) (l2 : List Int) (r1 r2 : List Int) (r3 : Int) (w : World) (hr1 : Kd.C (Kd.int .u64) w A1 l1.length l1) (hc1 : l1.length ≤ c1) (hr2 : Kd.C (Kd.int .u64) w A2 l2.length l2) (hc2 : l2.length ≤ c2) (h : product_Divide.f l1 l2 = some (r1, r2, r3)) :
    Calls Try.prog 30 #[.pointer none, .slice A1 l1.length c1, .slice A2 l2.length c2] w fun e w' => ∃ v0_ v1_ : Value, e = .returned (.tuple #[v0_, v1_, .int .i64 r3]) ∧ Kd.R (Kd.int .u64) 37 w' w.heap.size (fun _ => True) v0_ r1 ∧ Kd.R (Kd.int .u64) 37 w' w.heap.size (fun _ => True) v1_ r2 ∧ Below w.heap.size w w' := by
  unfold product_Divide.f at h
  split at h
  · rename_i hc
    obtain ⟨⟨h1, h2⟩, h3, h4⟩ := hc
    split at h
    · rename_i hl
      simp only [Option.some.injEq, Prod.mk.injEq] at h
      obtain ⟨rfl, rfl, rfl⟩ := h
      exact product_Divide_long A1 c1 l1 A2 c2 l2 w hr1 hc1 hr2 hc2 h3 h4 hl
    · rename_i hl
      split at h
      · rename_i hz
        simp only [Option.some.injEq, Prod.mk.injEq] at h
        obtain ⟨rfl, rfl, rfl⟩ := h
        exact product_Divide_zero A1 c1 l1 A2 c2 l2 w hr1 hc1 hr2 hc2 h1 h2 (by omega) (by omega) hz
      · rename_i hz
        simp only [Option.some.injEq, Prod.mk.injEq] at h
        obtain ⟨rfl, rfl, rfl⟩ := h
        exact product_Divide_ok A1 c1 l1 A2 c2 l2 w hr1 hc1 hr2 hc2 h1 h2 (by omega) (by omega) hz
  · exact absurd h (by simp)

end Go.Proofs.Ytalfniohakahlaa.X
