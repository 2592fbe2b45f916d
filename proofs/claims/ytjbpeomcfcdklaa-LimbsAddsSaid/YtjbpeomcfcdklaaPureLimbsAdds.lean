/- Sums and differences of any numbers of words, and what they carry, are as the document defines them. No conditions. -/
import Derived.Test.YtjbpeomcfcdklaaX30
import Derived.Test.YtjbpeomcfcdklaaSp4
namespace Go.Proofs.Ytjbpeomcfcdklaa.Pure
open Go.RowKit Go.Proofs.Ytjbpeomcfcdklaa.X Go.Proofs.YtjbpeomcfcdklaaW.PrintWords Go.Proofs.YtjbpeomcfcdklaaW.PrintLast Go.Proofs.Ytjbpeomcfcdklaa.Ma

theorem LimbsAdds : sconcelaw04_LimbsAdds.Pure := by
  intro a b _ _ ha _ _ hb
  rw [wf_Wd] at ha hb
  refine Ev.rounds ?_
  unfold sconcelaw04_LimbsAdds.f
  refine ev_bind0 awake4 (ev_pos rfl (ev_bind (sp_few4 _ (by simp)) ?_))
  by_cases h : fewB 200 [a, b] = true
  · have h' : a.length ≤ 200 ∧ b.length ≤ 200 := by simpa [fewB] using h
    refine ev_pos h (ev_bind0 (sp_limbs_Add ha hb (by omega)) (ev_bind (sp_ref4_Add ha hb (by omega) (by omega)) ?_))
    refine ev_bind0 (sp_limbs_Sub ha hb (by omega)) (ev_bind (sp_ref4_Sub ha hb (by omega) (by omega)) ?_)
    refine ev_bind (sp_both (by rw [dgs_length]; omega)) (ev_pos (by simp) (ev_bind (sp_both ?_) (ev_const (by simp))))
    split <;> (simp only [dgs_length]; omega)
  · exact ev_neg h (ev_const rfl)
end Go.Proofs.Ytjbpeomcfcdklaa.Pure
