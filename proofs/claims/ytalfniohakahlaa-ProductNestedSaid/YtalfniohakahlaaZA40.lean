/- Texts of the walk and of the plain laws, laid together by a program: PureProductNested. -/
import Derived.ArgAppend
import Derived.Below
import Derived.BigQuiet
import Derived.Deep.AppendLies
import Derived.Deep.CutBlock
import Derived.Deep.DeepCutAuto
import Derived.Deep.Draws
import Derived.Deep.LoopGhost
import Derived.Deep.OwnRows
import Derived.Deep.QuietTactic
import Derived.Deep.RegionHeld3
import Derived.Deep.RegionLaw
import Derived.Deep.RegionWith
import Derived.Defers
import Derived.KernelRfl
import Derived.Laws.BitsAllLaws
import Derived.Laws.BitsLemmas
import Derived.Laws.BytesArg
import Derived.Laws.CopyOwn
import Derived.Laws.Externs
import Derived.Laws.IdiomCopy
import Derived.Laws.MakeOwn
import Derived.Laws.OwnMore
import Derived.Laws.Rows
import Derived.Laws.Slices
import Derived.Lib.AppendStr
import Derived.Lib.BitFns
import Derived.Lib.ConvBytes
import Derived.Lib.Hide
import Derived.Lib.Slices
import Derived.Lib.Small
import Derived.Lib.Strings
import Derived.Lib.Walk
import Derived.Maps.AppendAt
import Derived.OrdersHeld
import Derived.OwnWalk
import Derived.Recover
import Derived.RowKit
import Derived.RowKit3
import Derived.Shelf.Spec.BitsCarry
import Derived.Tactics
import Derived.Test.YtalfniohakahlaaProg
import Derived.WalkKit
import Derived.WalkSmall
import Derived.WideLaws
import Derived.Test.YtalfniohakahlaaZA0
import Derived.Test.YtalfniohakahlaaZA1
import Derived.Test.YtalfniohakahlaaZA4
import Derived.Test.YtalfniohakahlaaZA6
import Derived.Test.YtalfniohakahlaaZA16
import Derived.Test.YtalfniohakahlaaZA17
import Derived.Test.YtalfniohakahlaaZA32
import Derived.Test.YtalfniohakahlaaZA34
import Derived.Test.YtalfniohakahlaaZA39
namespace Go.Proofs.Ytalfniohakahlaa.Pure
open Go.RowKit Go.Proofs.Ytalfniohakahlaa.X Go.Proofs.YtalfniohakahlaaW.PrintWords Go.Proofs.YtalfniohakahlaaW.PrintLast Go.Proofs.Ytalfniohakahlaa.Ma
theorem ProductNested : sconcelaw05_ProductNested.Pure := by
  intro a m n _ _ ha _ _ hm _ _ hn
  rw [wf_Wd] at ha hm hn
  refine Ev.rounds ?_
  unfold sconcelaw05_ProductNested.f
  refine ev_bind awake5 (ev_pos rfl (ev_bind (sp_Few5 _ (by simp)) ?_))
  by_cases h : fewB 40 [a, m, n] = true
  · have h' : a.length ≤ 40 ∧ m.length ≤ 40 ∧ n.length ≤ 40 := by simpa [fewB] using h
    obtain ⟨la, lm, ln⟩ := h'
    have hp : nW (wds (m.length + n.length) (nW m * nW n)) = nW m * nW n := nW_wds (by rw [Nat.pow_add]; exact Nat.mul_lt_mul'' (nW_lt hm) (nW_lt hn))
    have hpl : (wds (m.length + n.length) (nW m * nW n)).length = m.length + n.length := dgs_length _ _ _
    have hl3 := (divR_len a m).1
    have hqd : Wd (divR a m).1 := by
      unfold divR
      split
      · exact fun _ h => absurd h (by simp)
      · split
        · exact fun _ h => absurd h (by simp)
        · exact wds_Wd _ _
    refine ev_pos h (ev_bind0 (sp_Quick ha hm (by omega) (by omega)) (ev_bind0 (sp_Quick hqd hn (by omega) (by omega)) (ev_bind (sp_product_Mul hm hn (by omega) (by omega)) (ev_bind0 (sp_Quick ha (wds_Wd _ _) (by omega) (by omega)) ?_))))
    by_cases hz : nW m = 0
    · have e1 : divR a m = ([], [], 1) := divR_zero (by omega) (by omega) hz
      have e2 : divR a (wds (m.length + n.length) (nW m * nW n)) = ([], [], 1) := divR_zero (by omega) (by omega) (by rw [hp, hz, Nat.zero_mul])
      rw [e1, e2]
      exact ev_neg (by decide) (ev_const rfl)
    · rw [divR_ok (a := a) (m := m) (by omega) (by omega) hz]
      refine ev_pos rfl (ev_bind (sp_OfW hn (by omega)) ?_)
      by_cases hz2 : nW n = 0
      · have e2 : divR a (wds (m.length + n.length) (nW m * nW n)) = ([], [], 1) := divR_zero (by omega) (by omega) (by rw [hp, hz2, Nat.mul_zero])
        rw [e2]
        refine ev_pos ?_ (ev_const rfl)
        rw [hz2, big_zero]
        rfl
      · have hz3 : nW (wds (m.length + n.length) (nW m * nW n)) ≠ 0 := by rw [hp]; exact Nat.mul_ne_zero hz hz2
        have hql : (wds a.length (nW a / nW m)).length = a.length := dgs_length _ _ _
        have hq : nW (wds a.length (nW a / nW m)) = nW a / nW m := nW_wds (Nat.lt_of_le_of_lt (Nat.div_le_self _ _) (nW_lt ha))
        rw [divR_ok (a := wds a.length (nW a / nW m)) (m := n) (by omega) (by omega) hz2, divR_ok (a := a) (m := wds (m.length + n.length) (nW m * nW n)) (by omega) (by omega) hz3]
        rw [hp, hq, hql]
        refine ev_neg ?_ (ev_pos rfl (ev_pos rfl (ev_bind (sp_Same (by rw [dgs_length]; omega)) (ev_const ?_))))
        · rw [big_length]
          have := blen_pos hz2
          omega
        · rw [Nat.div_div_eq_div_mul]
          simp
  · exact ev_neg h (ev_const rfl)
end Go.Proofs.Ytalfniohakahlaa.Pure
