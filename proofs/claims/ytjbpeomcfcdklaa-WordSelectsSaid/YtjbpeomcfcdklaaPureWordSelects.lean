/- Masks, and what a bit selects, are as the document defines them. No conditions. -/
import Derived.Test.YtjbpeomcfcdklaaSp1
namespace Go.Proofs.Ytjbpeomcfcdklaa.Pure
open Go.RowKit Go.Proofs.Ytjbpeomcfcdklaa.X Go.Proofs.YtjbpeomcfcdklaaW.PrintWords Go.Proofs.YtjbpeomcfcdklaaW.PrintLast Go.Proofs.Ytjbpeomcfcdklaa.Ma

theorem WordSelects : sconcelaw01_WordSelects.Pure := by
  intro a b c ha hb hc
  rw [wd_wf] at ha hb hc
  refine Ev.rounds ?_
  unfold sconcelaw01_WordSelects.f
  refine ev_bind awake1 (ev_pos rfl ?_)
  refine ev_bind0 (sp_word_Mask ha) (ev_bind0 (sp_ref_Mask ha) (ev_pos rfl ?_))
  refine ev_bind0 (sp_word_Select ha hb hc) (ev_bind0 (sp_ref_Select ha) (ev_const (by simp)))
end Go.Proofs.Ytjbpeomcfcdklaa.Pure
