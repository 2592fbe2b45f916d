/- Texts of the walk and of the plain laws, laid together by a program: PureProductDivides. -/
import Derived.ArgAppend
import Derived.Below
import Derived.BigQuiet
import Derived.Deep.AppendLies
import Derived.Deep.CutBlock
import Derived.Deep.DeepCutAuto
import Derived.Deep.Draws
import Derived.Deep.LoopGhost
import Derived.Deep.OwnRows
import Derived.Deep.QuietTactic
import Derived.Deep.RegionHeld3
import Derived.Deep.RegionLaw
import Derived.Deep.RegionWith
import Derived.Defers
import Derived.KernelRfl
import Derived.Laws.BitsAllLaws
import Derived.Laws.BitsLemmas
import Derived.Laws.BytesArg
import Derived.Laws.CopyOwn
import Derived.Laws.Externs
import Derived.Laws.IdiomCopy
import Derived.Laws.MakeOwn
import Derived.Laws.OwnMore
import Derived.Laws.Rows
import Derived.Laws.Slices
import Derived.Lib.AppendStr
import Derived.Lib.BitFns
import Derived.Lib.ConvBytes
import Derived.Lib.Hide
import Derived.Lib.Slices
import Derived.Lib.Small
import Derived.Lib.Strings
import Derived.Lib.Walk
import Derived.Maps.AppendAt
import Derived.OrdersHeld
import Derived.OwnWalk
import Derived.Recover
import Derived.RowKit
import Derived.RowKit3
import Derived.Shelf.Spec.BitsCarry
import Derived.Tactics
import Derived.Test.YtalfniohakahlaaProg
import Derived.WalkKit
import Derived.WalkSmall
import Derived.WideLaws
import Derived.Test.YtalfniohakahlaaZA0
import Derived.Test.YtalfniohakahlaaZA1
import Derived.Test.YtalfniohakahlaaZA2
import Derived.Test.YtalfniohakahlaaZA6
import Derived.Test.YtalfniohakahlaaZA16
import Derived.Test.YtalfniohakahlaaZA17
import Derived.Test.YtalfniohakahlaaZA19
import Derived.Test.YtalfniohakahlaaZA21
import Derived.Test.YtalfniohakahlaaZA23
import Derived.Test.YtalfniohakahlaaZA32
import Derived.Test.YtalfniohakahlaaZA33
import Derived.Test.YtalfniohakahlaaZA34
namespace Go.Proofs.Ytalfniohakahlaa.Pure
open Go.RowKit Go.Proofs.Ytalfniohakahlaa.X Go.Proofs.YtalfniohakahlaaW.PrintWords Go.Proofs.YtalfniohakahlaaW.PrintLast Go.Proofs.Ytalfniohakahlaa.Ma
theorem divides_j {a m : List Int} (ha : Wd a) (hm : Wd m) (hl : a.length ≤ 310) (hl2 : m.length ≤ 310) (b : Bool) : Ev (fun k => sconcelaw05_ProductDivides.j0 k a m b) true := by
  cases b with
  | true => exact Ev.step (fun k => sconcelaw05_ProductDivides.j0.eq_2 ..) (ev_pos rfl (ev_const rfl))
  | false =>
    have hl3 := divR_len a m
    refine Ev.step (fun k => sconcelaw05_ProductDivides.j0.eq_2 ..) (ev_neg (by decide) ?_)
    refine ev_bind0 (sp_Divide ha hm (by omega) (by omega)) (ev_bind0 (sp_Quick ha hm (by omega) (by omega)) (ev_bind (sp_ref5_Divide ha hm (by omega) (by omega)) ?_))
    refine ev_pos rfl (ev_pos rfl (ev_bind (sp_Same (by omega)) (ev_pos (by simp) (ev_bind (sp_Same (by omega)) (ev_pos (by simp) (ev_bind (sp_Same (by omega)) (ev_pos (by simp) (ev_bind (sp_Same (by omega)) (ev_const (by simp))))))))))
theorem ProductDivides : sconcelaw05_ProductDivides.Pure := by
  intro a m _ _ ha _ _ hm
  rw [wf_Wd] at ha hm
  refine Ev.rounds ?_
  unfold sconcelaw05_ProductDivides.f
  refine ev_bind awake5 (ev_pos rfl (ev_bind (sp_Few5 _ (by simp)) ?_))
  rw [few1]
  have T : Ev (fun k => sconcelaw05_ProductDivides.j0 k a m true) true := Ev.step (fun k => sconcelaw05_ProductDivides.j0.eq_2 ..) (ev_pos rfl (ev_const rfl))
  have inner : a.length ≤ 310 → Ev (fun k => (sconcelaw05_Few.f k ([m] : List (List Int))).bind fun t => if t = true then sconcelaw05_ProductDivides.j0 k a m false else (sconcelaw05_huge.f m).bind fun t => sconcelaw05_ProductDivides.j0 k a m (!t)) true := by
    intro hla
    refine ev_bind (sp_Few5 _ (by simp)) ?_
    rw [few1]
    by_cases h2 : decide (m.length ≤ 40) = true
    · exact ev_pos h2 (divides_j ha hm hla (by have := of_decide_eq_true h2; omega) _)
    · refine ev_neg h2 (ev_bind0 (sp_huge _) ?_)
      by_cases h3 : decide (300 < m.length ∧ m.length ≤ 310) = true
      · rw [h3]; exact divides_j ha hm hla (of_decide_eq_true h3).2 _
      · rw [Bool.not_eq_true] at h3; rw [h3]; exact T
  by_cases h1 : decide (a.length ≤ 40) = true
  · exact ev_pos h1 (inner (by have := of_decide_eq_true h1; omega))
  · refine ev_neg h1 (ev_bind0 (sp_huge _) ?_)
    by_cases h3 : decide (300 < a.length ∧ a.length ≤ 310) = true
    · exact ev_pos h3 (inner (of_decide_eq_true h3).2)
    · exact ev_neg h3 T
end Go.Proofs.Ytalfniohakahlaa.Pure
