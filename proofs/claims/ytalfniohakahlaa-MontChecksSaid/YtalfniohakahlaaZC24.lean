/- Texts of the walk and of the plain laws, laid together by a program: X23. -/
import Derived.ArgAppend
import Derived.Below
import Derived.BigQuiet
import Derived.Deep.AppendLies
import Derived.Deep.CutBlock
import Derived.Deep.DeepCutAuto
import Derived.Deep.Draws
import Derived.Deep.LoopGhost
import Derived.Deep.OwnRows
import Derived.Deep.QuietTactic
import Derived.Deep.RegionHeld3
import Derived.Deep.RegionLaw
import Derived.Deep.RegionWith
import Derived.KernelRfl
import Derived.Laws.BitsAllLaws
import Derived.Laws.BitsLemmas
import Derived.Laws.BytesArg
import Derived.Laws.Externs
import Derived.Laws.IdiomCopy
import Derived.Laws.MakeOwn
import Derived.Laws.OwnMore
import Derived.Laws.Rows
import Derived.Laws.Slices
import Derived.Lib.AppendStr
import Derived.Lib.BitFns
import Derived.Lib.ConvBytes
import Derived.Lib.Hide
import Derived.Lib.Slices
import Derived.Lib.Small
import Derived.Lib.Strings
import Derived.Lib.Walk
import Derived.Maps.AppendAt
import Derived.OrdersHeld
import Derived.OwnWalk
import Derived.RowKit
import Derived.RowKit3
import Derived.Shelf.Spec.BitsCarry
import Derived.Tactics
import Derived.Test.YtalfniohakahlaaProg
import Derived.WalkKit
import Derived.WalkSmall
import Derived.WideLaws
import Derived.Test.YtalfniohakahlaaZC0
import Derived.Test.YtalfniohakahlaaZC1
import Derived.Test.YtalfniohakahlaaZC2
import Derived.Test.YtalfniohakahlaaZC4
import Derived.Test.YtalfniohakahlaaZC21
import Derived.Test.YtalfniohakahlaaZC23
namespace Go.Proofs.Ytalfniohakahlaa.X
open Go.RowKit Go.Proofs.YtalfniohakahlaaW.PrintWords Go.Proofs.YtalfniohakahlaaW.PrintLast Go.Proofs.YtalfniohakahlaaW.PrintMore
attribute [local go_sem] max2_int min2_int max_two min_two max_three min_three max_four min_four
set_option linter.unusedVariables false
set_option linter.unusedSimpArgs false
def sconceref03_DivMod.f (a0 a1 : List Int) : Option (List Int × List Int) :=
  if a0 = Ma.big (nH a0) ∧ a1 = Ma.big (nH a1) ∧ nH a1 ≠ 0 ∧ a0.length ≤ 100000 ∧ a1.length ≤ 100000 then some (Ma.big (nH a0 / nH a1), Ma.big (nH a0 % nH a1)) else none
theorem sp_ref_DivMod {a m : Nat} (ha : Ma.blen a ≤ 100000) (hm : Ma.blen m ≤ 100000) (h0 : m ≠ 0) : sconceref03_DivMod.f (Ma.big a) (Ma.big m) = some (Ma.big (a / m), Ma.big (a % m)) := by
  unfold sconceref03_DivMod.f nH
  rw [Ma.num_big, Ma.num_big, if_pos ⟨rfl, rfl, h0, by rw [Ma.big_length]; exact ha, by rw [Ma.big_length]; exact hm⟩]
theorem sconceref03_DivMod.calls (P0_ : Nat → Prop) (A0 : Option Addr) (c0 : Nat) (l0 : List Int) (A1 : Option Addr) (c1 : Nat) (l1 : List Int) (r1 r2 : List Int) (w : World) (hs0 : Kd.V (Kd.int .u32) 78 w w.heap.size (fun k_ => P0_ k_) (.slice A0 l0.length c0) l0) (hr1 : Kd.C (Kd.int .u32) w A1 l1.length l1) (hc1 : l1.length ≤ c1) (h : sconceref03_DivMod.f l0 l1 = some (r1, r2)) :
    Calls Try.prog 70 #[.slice A0 l0.length c0, .slice A1 l1.length c1] w fun e w' => ∃ v0_ v1_ : Value, e = .returned (.tuple #[v0_, v1_]) ∧ Kd.V (Kd.int .u32) 78 w' w.heap.size (fun k_ => (P0_ k_ ∨ w.heap.size ≤ k_)) v0_ r1 ∧ Kd.V (Kd.int .u32) 78 w' w.heap.size (fun k_ => (P0_ k_ ∨ w.heap.size ≤ k_)) v1_ r2 ∧ Below w.heap.size w w' := by
  unfold sconceref03_DivMod.f at h
  split at h
  · rename_i hc
    obtain ⟨e0, e1, hm0, hb0, hb1⟩ := hc
    generalize nH l0 = a at *
    generalize nH l1 = m at *
    subst e0
    subst e1
    rw [Option.some.injEq, Prod.mk.injEq] at h
    obtain ⟨rfl, rfl⟩ := h
    rw [Ma.big_length] at hb0 hb1
    rcases Nat.lt_or_ge a m with hlt | hge
    · exact ref_DivMod_less P0_ A0 c0 A1 c1 a m w hs0 hr1 hc1 hb0 hb1 hlt
    · have hp := Ma.blen_pos hm0
      rcases Nat.lt_or_ge 1 (Ma.blen m) with h1 | h1
      · exact ref_DivMod_big P0_ A0 c0 A1 c1 a m w hs0 hr1 hc1 hb0 hb1 h1 hge
      · exact ref_DivMod_one P0_ A0 c0 A1 c1 a m w hs0 hr1 hc1 hb0 (by omega) hge
  · exact absurd h (by simp)
end Go.Proofs.Ytalfniohakahlaa.X
