/- Which of two numbers of words a bit selects is as the document defines it. No conditions. -/
import Derived.Test.YtjbpeomcfcdklaaX34
import Derived.Test.YtjbpeomcfcdklaaSp4
namespace Go.Proofs.Ytjbpeomcfcdklaa.Pure
open Go.RowKit Go.Proofs.Ytjbpeomcfcdklaa.X Go.Proofs.YtjbpeomcfcdklaaW.PrintWords Go.Proofs.YtjbpeomcfcdklaaW.PrintLast Go.Proofs.Ytjbpeomcfcdklaa.Ma

theorem LimbsSelects : sconcelaw04_LimbsSelects.Pure := by
  intro c a b hc _ _ ha _ _ hb
  rw [wf_Wd] at ha hb
  rw [wd_wf] at hc
  refine Ev.rounds ?_
  unfold sconcelaw04_LimbsSelects.f
  refine ev_bind0 awake4 (ev_pos rfl (ev_bind (sp_few4 _ (by simp)) ?_))
  by_cases h : fewB 200 [a, b] = true
  · have h' : a.length ≤ 200 ∧ b.length ≤ 200 := by simpa [fewB] using h
    refine ev_pos h (ev_bind0 (sp_limbs_Select hc ha hb (by omega)) (ev_bind (sp_ref4_Select hc ha hb (by omega) (by omega)) ?_))
    exact ev_bind (sp_Same (by rw [dgs_length]; omega)) (ev_const (by simp))
  · exact ev_neg h (ev_const rfl)
end Go.Proofs.Ytjbpeomcfcdklaa.Pure
