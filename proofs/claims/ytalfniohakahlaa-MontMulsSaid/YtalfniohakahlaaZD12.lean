/- Texts of the walk and of the plain laws, laid together by a program: X7. -/
import Derived.Laws.BitsAllLaws
import Derived.Laws.Externs
import Derived.Lib.Hide
import Derived.Shelf.Spec.BitsCarry
import Derived.Test.YtalfniohakahlaaZv
import Derived.WalkSmall
import Derived.Test.YtalfniohakahlaaZD0
import Derived.Test.YtalfniohakahlaaZD1
import Derived.Test.YtalfniohakahlaaZD2
import Derived.Test.YtalfniohakahlaaZD11
namespace Go.Proofs.Ytalfniohakahlaa.X
open Go.RowKit Go.Proofs.YtalfniohakahlaaW.PrintWords Go.Proofs.YtalfniohakahlaaW.PrintLast Go.Proofs.YtalfniohakahlaaW.PrintMore
attribute [local go_sem] max2_int min2_int max_two min_two max_three min_three max_four min_four
set_option linter.unusedVariables false
set_option linter.unusedSimpArgs false
def bits_Len64.f (a0:Int):Option Int:=if 0≤a0∧a0≤18446744073709551615 then some (Lib.bitLen a0.toNat:Int) else none
theorem bits_Len64.calls (a0 r:Int) (w:World) (h:bits_Len64.f a0 = some r) :
  Calls Try.prog 99 #[.int .u64 a0] w fun e w' => e = .returned (.int .i64 r)∧Drawn0 w w':=by
 unfold bits_Len64.f at h
 split at h
 ·
  rename_i hc
  obtain rfl:=Option.some.inj h
  exact (bl_Len64 a0 w hc.1 hc.2).mono fun e w' q => ⟨q.1,by rw [q.2];exact Drawn0.refl _⟩
 ·
  exact absurd h (by simp)
end Go.Proofs.Ytalfniohakahlaa.X
