/- Texts of the walk and of the plain laws, laid together by a program: Sp1. -/
import Derived.ArgAppend
import Derived.Below
import Derived.BigQuiet
import Derived.Deep.AppendLies
import Derived.Deep.CutBlock
import Derived.Deep.DeepCutAuto
import Derived.Deep.Draws
import Derived.Deep.LoopGhost
import Derived.Deep.OwnRows
import Derived.Deep.QuietTactic
import Derived.Deep.RegionHeld3
import Derived.KernelRfl
import Derived.Laws.BitsAllLaws
import Derived.Laws.BitsLemmas
import Derived.Laws.BytesArg
import Derived.Laws.Externs
import Derived.Laws.IdiomCopy
import Derived.Laws.MakeOwn
import Derived.Laws.OwnMore
import Derived.Laws.Rows
import Derived.Laws.Slices
import Derived.Lib.AppendStr
import Derived.Lib.BitFns
import Derived.Lib.ConvBytes
import Derived.Lib.Hide
import Derived.Lib.Slices
import Derived.Lib.Small
import Derived.Lib.Strings
import Derived.Lib.Walk
import Derived.Maps.AppendAt
import Derived.OrdersHeld
import Derived.OwnWalk
import Derived.RowKit
import Derived.RowKit3
import Derived.Shelf.Spec.BitsCarry
import Derived.Tactics
import Derived.Test.YtalfniohakahlaaProg
import Derived.WalkKit
import Derived.WalkSmall
import Derived.WideLaws
import Derived.Test.YtalfniohakahlaaZC0
import Derived.Test.YtalfniohakahlaaZC1
import Derived.Test.YtalfniohakahlaaZC2
import Derived.Test.YtalfniohakahlaaZC5
import Derived.Test.YtalfniohakahlaaZC4
import Derived.Test.YtalfniohakahlaaZC6
import Derived.Test.YtalfniohakahlaaZC12
import Derived.Test.YtalfniohakahlaaZC15
namespace Go.Proofs.Ytalfniohakahlaa.X
open Go.RowKit Go.Proofs.YtalfniohakahlaaW.PrintWords Go.Proofs.YtalfniohakahlaaW.PrintLast Go.Proofs.YtalfniohakahlaaW.PrintMore Go.Proofs.Ytalfniohakahlaa.Ma
set_option linter.unusedVariables false
theorem sp_word_Mul {a b c d : Int} (ha : wd a = true) (hb : wd b = true) (hc : wd c = true) (hd : wd d = true) : word_Mul.f a b c d = some ((a * b + c + d) / 18446744073709551616, (a * b + c + d) % 18446744073709551616) := by
  rw [wd_iff] at ha hb hc hd
  unfold word_Mul.f; rw [if_pos ⟨⟨ha, hb⟩, hc, hd⟩]
theorem sp_word_Mask {a : Int} (ha : wd a = true) : word_Mask.f a = some (if a % 2 = 1 then 18446744073709551615 else 0) := by
  rw [wd_iff] at ha
  unfold word_Mask.f; rw [b_and1 ha.1 ha.2, wU]
  congr 1; split <;> omega
theorem sp_ref_One {b : Bool} : sconceref01_One.f b = some (if b = true then 1 else 0) := by
  unfold sconceref01_One.f; split <;> rfl
end Go.Proofs.Ytalfniohakahlaa.X
