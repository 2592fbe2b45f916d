-- Written by a program of this session (wip/tools/rp.py) out of the translation and the hand texts. Lean checks it.
import Derived.Test.YtalfniohakahlaaX0
import Derived.Test.YtalfniohakahlaaMr
namespace Go.Proofs.Ytalfniohakahlaa.X
open Go.RowKit Go.Proofs.YtalfniohakahlaaW.PrintWords Go.Proofs.YtalfniohakahlaaW.PrintLast Go.Proofs.YtalfniohakahlaaW.PrintMore
attribute [local go_sem] max2_int min2_int max_two min_two max_three min_three max_four min_four   -- for this text's walks alone
set_option linter.unusedVariables false
set_option linter.unusedSimpArgs false

/-! ### sconceref05_MulWord: function 26 -/
-- NEEDS Derived.Test.YtalfniohakahlaaMr
-- CALLS sconce/product.Mul sconce/sconceref05.Mul sconce/sconceref05.long sconce/sconceref03.Of sconce/sconceref03.Small sconce/sconceref03.Mul sconce/sconceref03.Add sconce/sconceref03.Nat sconce/sconceref03.Shl sconce/sconceref03.Least sconce/product.Small sconce/sconceref05.Small sconce/sconcelaw05.Few sconce/sconcelaw05.huge sconce/sconcelaw05.awake
def sconceref05_MulWord.f (l0 : List Int) (x : Int) (l2 : List Int) : Option (List Int × Int) :=
  if (l0.all Ma.wd = true ∧ l2.all Ma.wd = true) ∧ 0 ≤ x ∧ x < 18446744073709551616 then
    if 300 < l0.length ∨ 300 < l2.length then some ([], 0)
    else some (Ma.dgs 18446744073709551616 (max l0.length l2.length) (Ma.num 18446744073709551616 l0 * x.toNat + Ma.num 18446744073709551616 l2), (((Ma.num 18446744073709551616 l0 * x.toNat + Ma.num 18446744073709551616 l2) / 18446744073709551616 ^ (max l0.length l2.length) : Nat) : Int))
  else none
theorem sconceref05_MulWord.calls (A0 : Option Addr) (c0 : Nat) (l0 : List Int) (a1 : Int) (A2 : Option Addr) (c2 : Nat) (l2 : List Int) (r1 : List Int) (r2 : Int) (w : World) (hr0 : Kd.C (Kd.int .u64) w A0 l0.length l0) (hc0 : l0.length ≤ c0) (hr2 : Kd.C (Kd.int .u64) w A2 l2.length l2) (hc2 : l2.length ≤ c2) (h : sconceref05_MulWord.f l0 a1 l2 = some (r1, r2)) :
    Calls Try.prog 26 #[.slice A0 l0.length c0, .int .u64 a1, .slice A2 l2.length c2] w fun e w' => ∃ v0_ : Value, e = .returned (.tuple #[v0_, .int .u64 r2]) ∧ Kd.V (Kd.int .u64) 37 w' w.heap.size (fun k_ => (w.heap.size ≤ k_)) v0_ r1 ∧ Below w.heap.size w w' := by
  unfold sconceref05_MulWord.f at h
  split at h
  · rename_i hc
    obtain ⟨⟨h1, h2⟩, h3, h4⟩ := hc
    split at h
    · rename_i hl
      simp only [Option.some.injEq, Prod.mk.injEq] at h
      obtain ⟨rfl, rfl⟩ := h
      by_cases h5 : 300 < l0.length
      · exact ref_MulWord_long1 A0 c0 l0 a1 A2 c2 l2 w hr0 hc0 hr2 hc2 h5
      · exact ref_MulWord_long2 A0 c0 l0 a1 A2 c2 l2 w hr0 hc0 hr2 hc2 (by omega) (by omega)
    · rename_i hl
      obtain ⟨x, rfl⟩ := Int.eq_ofNat_of_zero_le h3
      simp only [Option.some.injEq, Prod.mk.injEq, Int.toNat_natCast] at h
      obtain ⟨rfl, rfl⟩ := h
      exact ref_MulWord_ok A0 c0 l0 x A2 c2 l2 w hr0 hc0 hr2 hc2 (Ma.wds_dg.1 h1) (Ma.wds_dg.1 h2) (by omega) (by omega) (by omega)
  · exact absurd h (by simp)

end Go.Proofs.Ytalfniohakahlaa.X
