/- Layer 1: what the printed functions of words come to. -/
import Derived.Test.YtalfniohakahlaaX1
import Derived.Test.YtalfniohakahlaaX5
import Derived.Test.YtalfniohakahlaaX8
import Derived.Test.YtalfniohakahlaaX9
import Derived.Test.YtalfniohakahlaaBt
namespace Go.Proofs.Ytalfniohakahlaa.X
open Go.RowKit Go.Proofs.YtalfniohakahlaaW.PrintWords Go.Proofs.YtalfniohakahlaaW.PrintLast Go.Proofs.YtalfniohakahlaaW.PrintMore Go.Proofs.Ytalfniohakahlaa.Ma
set_option linter.unusedVariables false

theorem sp_word_Add {a b c : Int} (ha : wd a = true) (hb : wd b = true) (hc : wd c = true) : word_Add.f a b c = some ((a + b + c % 2) % 18446744073709551616, (a + b + c % 2) / 18446744073709551616) := by
  rw [wd_iff] at ha hb hc
  unfold word_Add.f; rw [if_pos ⟨⟨ha.1, hb.1⟩, hc⟩]
theorem sp_word_Sub {a b c : Int} (ha : wd a = true) (hb : wd b = true) (hc : wd c = true) : word_Sub.f a b c = some ((a - b - c % 2) % 18446744073709551616, bor a (b + c % 2)) := by
  rw [wd_iff] at ha hb hc
  unfold word_Sub.f; rw [if_pos ⟨⟨ha.1, hb⟩, hc⟩]
theorem sp_word_Mul {a b c d : Int} (ha : wd a = true) (hb : wd b = true) (hc : wd c = true) (hd : wd d = true) : word_Mul.f a b c d = some ((a * b + c + d) / 18446744073709551616, (a * b + c + d) % 18446744073709551616) := by
  rw [wd_iff] at ha hb hc hd
  unfold word_Mul.f; rw [if_pos ⟨⟨ha, hb⟩, hc, hd⟩]
theorem sp_word_Mask {a : Int} (ha : wd a = true) : word_Mask.f a = some (if a % 2 = 1 then 18446744073709551615 else 0) := by
  rw [wd_iff] at ha
  unfold word_Mask.f; rw [b_and1 ha.1 ha.2, wU]
  congr 1; split <;> omega
theorem sp_word_Select {a b c : Int} (ha : wd a = true) (hb : wd b = true) (hc : wd c = true) : word_Select.f a b c = some (if a % 2 = 1 then b else c) := by
  unfold word_Select.f; rw [sp_word_Mask ha]
  rw [wd_iff] at hb hc
  simp only [Option.bind_some]
  congr 1
  split
  · rw [b_and_all hb.1 hb.2, b_andNot_all hc.1 hc.2, b_or_0 hb.1 hb.2]
  · rw [b_and_0 hb.1 hb.2, b_andNot_0 hc.1 hc.2, b_0_or hc.1 hc.2]
theorem sp_ref_One {b : Bool} : sconceref01_One.f b = some (if b = true then 1 else 0) := by
  unfold sconceref01_One.f; split <;> rfl
theorem two_mul_div (b : Int) (i : Nat) : b / 2 ^ i = 2 * (b / 2 ^ (i + 1)) + b / 2 ^ i % 2 := by
  have e : (2 : Int) ^ (i + 1) = 2 ^ i * 2 := Int.pow_succ 2 i
  rw [e, ← Int.ediv_ediv_of_nonneg (Int.pow_nonneg (by decide))]
  omega
end Go.Proofs.Ytalfniohakahlaa.X
