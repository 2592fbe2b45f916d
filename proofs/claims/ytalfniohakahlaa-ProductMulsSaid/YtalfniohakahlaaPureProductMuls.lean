/- The product of any numbers is as the document defines it. No conditions. -/
import Derived.Test.YtalfniohakahlaaX2
import Derived.Test.YtalfniohakahlaaX3
import Derived.Test.YtalfniohakahlaaX11
import Derived.Test.YtalfniohakahlaaX12
import Derived.Test.YtalfniohakahlaaSp5b
namespace Go.Proofs.Ytalfniohakahlaa.Pure
open Go.RowKit Go.Proofs.Ytalfniohakahlaa.X Go.Proofs.YtalfniohakahlaaW.PrintWords Go.Proofs.YtalfniohakahlaaW.PrintLast Go.Proofs.Ytalfniohakahlaa.Ma

theorem mul_same {a b : List Int} (ha : Wd a) (hb : Wd b) : Ev (fun k => (product_Mul.f k a b).bind fun t => (sconceref05_Mul.f k a b).bind fun u => (sconceref03_Same.f k t u).bind fun v => some v) true := by
  by_cases h : 300 < a.length ∨ 300 < b.length
  · refine ev_bind (sp_product_Mul_long h) (ev_bind (sp_ref5_Mul_long h) (ev_bind (sp_Same (by simp)) (ev_const (by simp))))
  · refine ev_bind (sp_product_Mul ha hb (by omega) (by omega)) (ev_bind (sp_ref5_Mul ha hb (by omega) (by omega)) (ev_bind (sp_Same (by rw [dgs_length]; omega)) (ev_const (by simp))))
theorem ProductMuls : sconcelaw05_ProductMuls.Pure := by
  intro a b _ _ ha _ _ hb
  rw [wf_Wd] at ha hb
  refine Ev.rounds ?_
  unfold sconcelaw05_ProductMuls.f
  refine ev_bind awake5 (ev_pos rfl (ev_bind (sp_Few5 _ (by simp)) ?_))
  rw [few1]
  by_cases h1 : decide (a.length ≤ 40) = true
  · refine ev_pos h1 (ev_bind (sp_Few5 _ (by simp)) ?_)
    rw [few1]
    by_cases h2 : decide (b.length ≤ 40) = true
    · exact ev_pos h2 (mul_same ha hb)
    · refine ev_neg h2 (ev_bind0 (sp_huge _) ?_)
      by_cases h3 : decide (300 < b.length ∧ b.length ≤ 310) = true
      · exact ev_pos h3 (mul_same ha hb)
      · exact ev_neg h3 (ev_const rfl)
  · refine ev_neg h1 (ev_bind0 (sp_huge _) ?_)
    by_cases h3 : decide (300 < a.length ∧ a.length ≤ 310) = true
    · refine ev_pos h3 (ev_bind (sp_Few5 _ (by simp)) ?_)
      rw [few1]
      by_cases h2 : decide (b.length ≤ 40) = true
      · exact ev_pos h2 (mul_same ha hb)
      · refine ev_neg h2 (ev_bind0 (sp_huge _) ?_)
        by_cases h3 : decide (300 < b.length ∧ b.length ≤ 310) = true
        · exact ev_pos h3 (mul_same ha hb)
        · exact ev_neg h3 (ev_const rfl)
    · exact ev_neg h3 (ev_const rfl)
end Go.Proofs.Ytalfniohakahlaa.Pure
