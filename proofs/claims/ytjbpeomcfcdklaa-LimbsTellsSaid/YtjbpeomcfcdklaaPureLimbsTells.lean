/- Whether numbers of words are below one another, alike, 0 is told as the document says. No conditions. -/
import Derived.Test.YtjbpeomcfcdklaaX37
import Derived.Test.YtjbpeomcfcdklaaSp4
namespace Go.Proofs.Ytjbpeomcfcdklaa.Pure
open Go.RowKit Go.Proofs.Ytjbpeomcfcdklaa.X Go.Proofs.YtjbpeomcfcdklaaW.PrintWords Go.Proofs.YtjbpeomcfcdklaaW.PrintLast Go.Proofs.Ytjbpeomcfcdklaa.Ma

theorem LimbsTells : sconcelaw04_LimbsTells.Pure := by
  intro a b _ _ ha _ _ hb
  rw [wf_Wd] at ha hb
  refine Ev.rounds ?_
  unfold sconcelaw04_LimbsTells.f
  refine ev_bind0 awake4 (ev_pos rfl (ev_bind (sp_few4 _ (by simp)) ?_))
  by_cases h : fewB 200 [a, b] = true
  · have h' : a.length ≤ 200 ∧ b.length ≤ 200 := by simpa [fewB] using h
    refine ev_pos h (ev_bind0 (sp_limbs_Less ha hb (by omega)) (ev_bind (sp_ref4_Less ha hb (by omega) (by omega)) (ev_pos rfl ?_)))
    refine ev_bind0 (sp_limbs_Equal ha hb (by omega)) (ev_bind (sp_ref4_Equal ha hb (by omega) (by omega)) (ev_pos rfl ?_))
    exact ev_bind0 (sp_limbs_Zero ha (by omega)) (ev_bind (sp_ref4_Zero ha (by omega)) (ev_const (by simp)))
  · exact ev_neg h (ev_const rfl)
end Go.Proofs.Ytjbpeomcfcdklaa.Pure
