/- Layer 1: what the printed functions of words come to. -/
import Derived.Test.YtjbpeomcfcdklaaX1
import Derived.Test.YtjbpeomcfcdklaaX2
import Derived.Test.YtjbpeomcfcdklaaX5
import Derived.Test.YtjbpeomcfcdklaaX17
import Derived.Test.YtjbpeomcfcdklaaX19
import Derived.Test.YtjbpeomcfcdklaaX24
import Derived.Test.YtjbpeomcfcdklaaBt
namespace Go.Proofs.Ytjbpeomcfcdklaa.X
open Go.RowKit Go.Proofs.YtjbpeomcfcdklaaW.PrintWords Go.Proofs.YtjbpeomcfcdklaaW.PrintLast Go.Proofs.YtjbpeomcfcdklaaW.PrintMore Go.Proofs.Ytjbpeomcfcdklaa.Ma
set_option linter.unusedVariables false

theorem sp_word_Add {a b c : Int} (ha : wd a = true) (hb : wd b = true) (hc : wd c = true) : word_Add.f a b c = some ((a + b + c % 2) % 18446744073709551616, (a + b + c % 2) / 18446744073709551616) := by
  rw [wd_iff] at ha hb hc
  unfold word_Add.f; rw [if_pos ⟨⟨ha.1, hb.1⟩, hc⟩]
theorem sp_word_Sub {a b c : Int} (ha : wd a = true) (hb : wd b = true) (hc : wd c = true) : word_Sub.f a b c = some ((a - b - c % 2) % 18446744073709551616, bor a (b + c % 2)) := by
  rw [wd_iff] at ha hb hc
  unfold word_Sub.f; rw [if_pos ⟨⟨ha.1, hb⟩, hc⟩]
theorem sp_word_Mask {a : Int} (ha : wd a = true) : word_Mask.f a = some (if a % 2 = 1 then 18446744073709551615 else 0) := by
  rw [wd_iff] at ha
  unfold word_Mask.f; rw [b_and1 ha.1 ha.2, wU]
  congr 1; split <;> omega
theorem sp_word_Select {a b c : Int} (ha : wd a = true) (hb : wd b = true) (hc : wd c = true) : word_Select.f a b c = some (if a % 2 = 1 then b else c) := by
  unfold word_Select.f; rw [sp_word_Mask ha]
  rw [wd_iff] at hb hc
  simp only [Option.bind_some]
  congr 1
  split
  · rw [b_and_all hb.1 hb.2, b_andNot_all hc.1 hc.2, b_or_0 hb.1 hb.2]
  · rw [b_and_0 hb.1 hb.2, b_andNot_0 hc.1 hc.2, b_0_or hc.1 hc.2]
theorem sp_word_Zero {a : Int} (ha : wd a = true) : word_Zero.f a = some (if a = 0 then 1 else 0) := by
  rw [wd_iff] at ha
  unfold word_Zero.f; rw [wU]
  congr 1
  by_cases h : a = 0
  · subst h; rw [if_pos rfl]; rfl
  · rw [if_neg h]
    have e : (-a) % 18446744073709551616 = 18446744073709551616 - a := by omega
    rw [e]
    have hg := b_or_ge ha.1 ha.2 (b := 18446744073709551616 - a) (by omega) (by omega)
    have hl := b_or_lt ha.1 ha.2 (b := 18446744073709551616 - a) (by omega) (by omega)
    have e1 : Go.bits .or .u64 a (18446744073709551616 - a) / 9223372036854775808 = 1 := by omega
    rw [e1]; rfl
theorem sp_word_Equal {a b : Int} (ha : wd a = true) (hb : wd b = true) : word_Equal.f a b = some (if a = b then 1 else 0) := by
  unfold word_Equal.f
  rw [wd_iff] at ha hb
  rw [sp_word_Zero (wd_iff.2 (b_xor_lt ha.1 ha.2 hb.1 hb.2))]
  simp only [Option.bind_some, b_xor_zero ha.1 ha.2 hb.1 hb.2]
theorem sp_ref_One {b : Bool} : sconceref01_One.f b = some (if b = true then 1 else 0) := by
  unfold sconceref01_One.f; split <;> rfl
theorem two_mul_div (b : Int) (i : Nat) : b / 2 ^ i = 2 * (b / 2 ^ (i + 1)) + b / 2 ^ i % 2 := by
  have e : (2 : Int) ^ (i + 1) = 2 ^ i * 2 := Int.pow_succ 2 i
  rw [e, ← Int.ediv_ediv_of_nonneg (Int.pow_nonneg (by decide))]
  omega
end Go.Proofs.Ytjbpeomcfcdklaa.X
