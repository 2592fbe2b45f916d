/- Texts of the walk and of the plain laws, laid together by a program: PureProductBack. -/
import Derived.ArgAppend
import Derived.Below
import Derived.BigQuiet
import Derived.Deep.AppendLies
import Derived.Deep.CutBlock
import Derived.Deep.DeepCutAuto
import Derived.Deep.Draws
import Derived.Deep.LoopGhost
import Derived.Deep.OwnRows
import Derived.Deep.QuietTactic
import Derived.Deep.RegionHeld3
import Derived.Deep.RegionLaw
import Derived.Deep.RegionWith
import Derived.Defers
import Derived.KernelRfl
import Derived.Laws.BitsAllLaws
import Derived.Laws.BitsLemmas
import Derived.Laws.BytesArg
import Derived.Laws.CopyOwn
import Derived.Laws.Externs
import Derived.Laws.IdiomCopy
import Derived.Laws.MakeOwn
import Derived.Laws.OwnMore
import Derived.Laws.Rows
import Derived.Laws.Slices
import Derived.Lib.AppendStr
import Derived.Lib.BitFns
import Derived.Lib.ConvBytes
import Derived.Lib.Hide
import Derived.Lib.Slices
import Derived.Lib.Small
import Derived.Lib.Strings
import Derived.Lib.Walk
import Derived.Maps.AppendAt
import Derived.OrdersHeld
import Derived.OwnWalk
import Derived.Recover
import Derived.RowKit
import Derived.RowKit3
import Derived.Shelf.Spec.BitsCarry
import Derived.Tactics
import Derived.Test.YtalfniohakahlaaProg
import Derived.WalkKit
import Derived.WalkSmall
import Derived.WideLaws
import Derived.Test.YtalfniohakahlaaZA0
import Derived.Test.YtalfniohakahlaaZA1
import Derived.Test.YtalfniohakahlaaZA4
import Derived.Test.YtalfniohakahlaaZA6
import Derived.Test.YtalfniohakahlaaZA16
import Derived.Test.YtalfniohakahlaaZA17
import Derived.Test.YtalfniohakahlaaZA32
import Derived.Test.YtalfniohakahlaaZA34
import Derived.Test.YtalfniohakahlaaZA37
namespace Go.Proofs.Ytalfniohakahlaa.Pure
open Go.RowKit Go.Proofs.Ytalfniohakahlaa.X Go.Proofs.YtalfniohakahlaaW.PrintWords Go.Proofs.YtalfniohakahlaaW.PrintLast Go.Proofs.Ytalfniohakahlaa.Ma
theorem ProductBack : sconcelaw05_ProductBack.Pure := by
  intro a m _ _ ha _ _ hm
  rw [wf_Wd] at ha hm
  refine Ev.rounds ?_
  unfold sconcelaw05_ProductBack.f
  refine ev_bind awake5 (ev_pos rfl (ev_bind (sp_Few5 _ (by simp)) ?_))
  by_cases h : fewB 40 [a, m] = true
  · have h' : a.length ≤ 40 ∧ m.length ≤ 40 := by simpa [fewB] using h
    obtain ⟨la, lm⟩ := h'
    have ba := blen_nW ha
    have bm := blen_nW hm
    refine ev_pos h (ev_bind0 (sp_Quick ha hm (by omega) (by omega)) ?_)
    by_cases hz : nW m = 0
    · rw [divR_zero (by omega) (by omega) hz]
      refine ev_neg (by decide) (ev_bind (sp_OfW hm (by omega)) (ev_const ?_))
      rw [hz, big_zero]
      rfl
    · rw [divR_ok (by omega) (by omega) hz]
      have hm0 : 0 < nW m := Nat.pos_of_ne_zero hz
      have hlt : nW a % nW m < nW m := Nat.mod_lt _ hm0
      have hq : nW (wds a.length (nW a / nW m)) = nW a / nW m := nW_wds (Nat.lt_of_le_of_lt (Nat.div_le_self _ _) (nW_lt ha))
      have hr : nW (wds m.length (nW a % nW m)) = nW a % nW m := nW_wds (Nat.lt_trans hlt (nW_lt hm))
      have hql : nW a / nW m < 18446744073709551616 ^ a.length := Nat.lt_of_le_of_lt (Nat.div_le_self _ _) (nW_lt ha)
      have hp : nW (wds ((wds a.length (nW a / nW m)).length + m.length) (nW a / nW m * nW m)) = nW a / nW m * nW m := by
        rw [dgs_length]
        exact nW_wds (by rw [Nat.pow_add]; exact Nat.mul_lt_mul'' hql (nW_lt hm))
      refine ev_pos rfl (ev_bind (sp_product_Mul (wds_Wd _ _) hm (by rw [dgs_length]; omega) (by omega)) ?_)
      rw [hq]
      refine ev_bind (sp_OfW (wds_Wd _ _) (by simp only [dgs_length]; omega)) (ev_bind (sp_OfW (wds_Wd _ _) (by rw [dgs_length]; omega)) ?_)
      rw [hp, hr]
      have b1 := blen_mono (show nW a / nW m * nW m ≤ nW a from Nat.div_mul_le_self _ _)
      have b2 := blen_mono (Nat.le_of_lt hlt)
      have e : nW a / nW m * nW m + nW a % nW m = nW a := by rw [Nat.mul_comm]; exact Nat.div_add_mod _ _
      refine ev_bind (sp_Add (by omega) (by omega)) ?_
      rw [e]
      refine ev_bind (sp_OfW ha (by omega)) (ev_bind (sp_Cmp (by omega)) (ev_pos ?_ ?_))
      · unfold cmpI
        rw [if_neg (by omega), if_pos rfl]
      · refine ev_bind (sp_OfW (wds_Wd _ _) (by rw [dgs_length]; omega)) ?_
        rw [hr]
        refine ev_bind (sp_OfW hm (by omega)) (ev_bind (sp_Cmp (by omega)) (ev_const ?_))
        unfold cmpI
        rw [if_pos hlt]
        rfl
  · exact ev_neg h (ev_const rfl)
end Go.Proofs.Ytalfniohakahlaa.Pure
