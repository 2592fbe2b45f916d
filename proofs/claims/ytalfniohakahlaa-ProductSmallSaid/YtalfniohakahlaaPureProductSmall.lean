/- The rest of any number by a word is as the document defines it. No conditions. -/
import Derived.Test.YtalfniohakahlaaX17
import Derived.Test.YtalfniohakahlaaSp5b
import Derived.Test.YtalfniohakahlaaSp5s
namespace Go.Proofs.Ytalfniohakahlaa.Pure
open Go.RowKit Go.Proofs.Ytalfniohakahlaa.X Go.Proofs.YtalfniohakahlaaW.PrintWords Go.Proofs.YtalfniohakahlaaW.PrintLast Go.Proofs.Ytalfniohakahlaa.Ma

theorem ProductSmall : sconcelaw05_ProductSmall.Pure := by
  intro a d _ _ ha hd
  rw [wf_Wd] at ha
  rw [wf_u64] at hd
  obtain ⟨d, rfl⟩ := Int.eq_ofNat_of_zero_le hd.1
  refine Ev.rounds ?_
  unfold sconcelaw05_ProductSmall.f
  refine ev_bind awake5 (ev_pos rfl (ev_bind (sp_Few5 _ (by simp)) ?_))
  rw [few1]
  by_cases h1 : decide (a.length ≤ 40) = true
  · have h2 := of_decide_eq_true h1
    refine ev_pos h1 (ev_bind (sp_product_Small ha (by omega) (by omega)) (ev_bind (sp_ref5_Small ha (by omega) (by omega)) (ev_pos rfl (ev_const (by simp)))))
  · exact ev_neg h1 (ev_const rfl)
end Go.Proofs.Ytalfniohakahlaa.Pure
