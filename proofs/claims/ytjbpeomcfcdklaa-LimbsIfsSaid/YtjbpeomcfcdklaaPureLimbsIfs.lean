/- Sums and differences of numbers of words that are made if a bit is 1 are as the document defines them. No conditions. -/
import Derived.Test.YtjbpeomcfcdklaaX32
import Derived.Test.YtjbpeomcfcdklaaSp4
namespace Go.Proofs.Ytjbpeomcfcdklaa.Pure
open Go.RowKit Go.Proofs.Ytjbpeomcfcdklaa.X Go.Proofs.YtjbpeomcfcdklaaW.PrintWords Go.Proofs.YtjbpeomcfcdklaaW.PrintLast Go.Proofs.Ytjbpeomcfcdklaa.Ma

theorem LimbsIfs : sconcelaw04_LimbsIfs.Pure := by
  intro c a b hc _ _ ha _ _ hb
  rw [wf_Wd] at ha hb
  rw [wd_wf] at hc
  refine Ev.rounds ?_
  unfold sconcelaw04_LimbsIfs.f
  refine ev_bind0 awake4 (ev_pos rfl (ev_bind (sp_few4 _ (by simp)) ?_))
  by_cases h : fewB 200 [a, b] = true
  · have h' : a.length ≤ 200 ∧ b.length ≤ 200 := by simpa [fewB] using h
    refine ev_pos h (ev_bind0 (sp_limbs_AddIf hc ha hb (by omega)) (ev_bind (sp_ref4_AddIf hc ha hb (by omega) (by omega)) ?_))
    refine ev_bind0 (sp_limbs_SubIf hc ha hb (by omega)) (ev_bind (sp_ref4_SubIf hc ha hb (by omega) (by omega)) ?_)
    refine ev_bind (sp_both (by rw [dgs_length]; omega)) (ev_pos (by simp) (ev_bind (sp_both ?_) (ev_const (by simp))))
    (repeat' split) <;> (simp only [dgs_length]; omega)
  · exact ev_neg h (ev_const rfl)
end Go.Proofs.Ytjbpeomcfcdklaa.Pure
