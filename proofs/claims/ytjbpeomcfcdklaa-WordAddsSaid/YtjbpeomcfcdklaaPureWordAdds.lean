/- Sums and differences of any words and what they carry are as the document defines them. No conditions. -/
import Derived.Test.YtjbpeomcfcdklaaSp1
namespace Go.Proofs.Ytjbpeomcfcdklaa.Pure
open Go.RowKit Go.Proofs.Ytjbpeomcfcdklaa.X Go.Proofs.YtjbpeomcfcdklaaW.PrintWords Go.Proofs.YtjbpeomcfcdklaaW.PrintLast Go.Proofs.Ytjbpeomcfcdklaa.Ma

theorem WordAdds : sconcelaw01_WordAdds.Pure := by
  intro a b c ha hb hc
  rw [wd_wf] at ha hb hc
  refine Ev.rounds ?_
  unfold sconcelaw01_WordAdds.f
  refine ev_bind awake1 (ev_pos rfl ?_)
  refine ev_bind0 (sp_word_Add ha hb hc) (ev_bind0 (sp_ref_Add ha hb hc) (ev_bind0 (sp_word_Sub ha hb hc) (ev_bind0 (sp_ref_Sub ha hb hc) ?_)))
  exact ev_pos rfl (ev_pos rfl (ev_pos rfl (ev_const (by simp))))
end Go.Proofs.Ytjbpeomcfcdklaa.Pure
