/- A number times a word, with another number added, is as the document defines it. No conditions. -/
import Derived.Test.YtalfniohakahlaaX11
import Derived.Test.YtalfniohakahlaaX15
import Derived.Test.YtalfniohakahlaaX18
import Derived.Test.YtalfniohakahlaaX19
import Derived.Test.YtalfniohakahlaaSp5b
namespace Go.Proofs.Ytalfniohakahlaa.Pure
open Go.RowKit Go.Proofs.Ytalfniohakahlaa.X Go.Proofs.YtalfniohakahlaaW.PrintWords Go.Proofs.YtalfniohakahlaaW.PrintLast Go.Proofs.Ytalfniohakahlaa.Ma

theorem words_j {a c : List Int} (ha : Wd a) (hc : Wd c) {x : Int} (h0 : 0 ≤ x) (h1 : x < 18446744073709551616) (hl : a.length ≤ 310) (hl2 : c.length ≤ 310) (b : Bool) : Ev (fun k => sconcelaw05_ProductWords.j0 k a x c b) true := by
  cases b with
  | true => exact Ev.step (fun k => sconcelaw05_ProductWords.j0.eq_2 ..) (ev_pos rfl (ev_const rfl))
  | false =>
    refine Ev.step (fun k => sconcelaw05_ProductWords.j0.eq_2 ..) (ev_neg (by decide) ?_)
    by_cases h : 300 < a.length ∨ 300 < c.length
    · refine ev_bind0 (a := ([], 0)) (by unfold product_MulWord.f; rw [if_pos ⟨⟨wd_all.2 ha, wd_all.2 hc⟩, h0, h1⟩, if_pos h]) ?_
      refine ev_bind0 (a := ([], 0)) (by unfold sconceref05_MulWord.f; rw [if_pos ⟨⟨wd_all.2 ha, wd_all.2 hc⟩, h0, h1⟩, if_pos h]) ?_
      exact ev_bind (sp_Same (by simp)) (ev_pos (by simp) (ev_const (by simp)))
    · refine ev_bind0 (by unfold product_MulWord.f; rw [if_pos ⟨⟨wd_all.2 ha, wd_all.2 hc⟩, h0, h1⟩, if_neg h]) ?_
      refine ev_bind0 (by unfold sconceref05_MulWord.f; rw [if_pos ⟨⟨wd_all.2 ha, wd_all.2 hc⟩, h0, h1⟩, if_neg h]) ?_
      exact ev_bind (sp_Same (by simp only [dgs_length]; omega)) (ev_pos (by simp) (ev_const (by simp)))
theorem ProductWords : sconcelaw05_ProductWords.Pure := by
  intro a x c _ _ ha hx _ _ hc
  rw [wf_Wd] at ha hc
  rw [wf_u64] at hx
  refine Ev.rounds ?_
  unfold sconcelaw05_ProductWords.f
  refine ev_bind awake5 (ev_pos rfl (ev_bind (sp_Few5 _ (by simp)) ?_))
  rw [few1]
  have T : Ev (fun k => sconcelaw05_ProductWords.j0 k a x c true) true := Ev.step (fun k => sconcelaw05_ProductWords.j0.eq_2 ..) (ev_pos rfl (ev_const rfl))
  have inner : a.length ≤ 310 → Ev (fun k => (sconcelaw05_Few.f k ([c] : List (List Int))).bind fun t => if t = true then sconcelaw05_ProductWords.j0 k a x c false else (sconcelaw05_huge.f c).bind fun t => sconcelaw05_ProductWords.j0 k a x c (!t)) true := by
    intro hla
    refine ev_bind (sp_Few5 _ (by simp)) ?_
    rw [few1]
    by_cases h2 : decide (c.length ≤ 40) = true
    · exact ev_pos h2 (words_j ha hc hx.1 hx.2 hla (by have := of_decide_eq_true h2; omega) _)
    · refine ev_neg h2 (ev_bind0 (sp_huge _) ?_)
      by_cases h3 : decide (300 < c.length ∧ c.length ≤ 310) = true
      · rw [h3]; exact words_j ha hc hx.1 hx.2 hla (of_decide_eq_true h3).2 _
      · rw [Bool.not_eq_true] at h3; rw [h3]; exact T
  by_cases h1 : decide (a.length ≤ 40) = true
  · exact ev_pos h1 (inner (by have := of_decide_eq_true h1; omega))
  · refine ev_neg h1 (ev_bind0 (sp_huge _) ?_)
    by_cases h3 : decide (300 < a.length ∧ a.length ≤ 310) = true
    · exact ev_pos h3 (inner (of_decide_eq_true h3).2)
    · exact ev_neg h3 T
end Go.Proofs.Ytalfniohakahlaa.Pure
