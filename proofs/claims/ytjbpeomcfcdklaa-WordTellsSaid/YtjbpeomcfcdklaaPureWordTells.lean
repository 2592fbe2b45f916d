/- Whether words are alike, below one another, 0 is told as the document says. No conditions. -/
import Derived.Test.YtjbpeomcfcdklaaSp1
namespace Go.Proofs.Ytjbpeomcfcdklaa.Pure
open Go.RowKit Go.Proofs.Ytjbpeomcfcdklaa.X Go.Proofs.YtjbpeomcfcdklaaW.PrintWords Go.Proofs.YtjbpeomcfcdklaaW.PrintLast Go.Proofs.Ytjbpeomcfcdklaa.Ma

theorem WordTells : sconcelaw01_WordTells.Pure := by
  intro a b ha hb
  rw [wd_wf] at ha hb
  refine Ev.rounds ?_
  unfold sconcelaw01_WordTells.f
  refine ev_bind awake1 (ev_pos rfl ?_)
  refine ev_bind0 (sp_word_Equal ha hb) (ev_bind0 sp_ref_One (ev_pos (by simp) ?_))
  refine ev_bind0 (sp_word_Less ha hb) (ev_bind0 sp_ref_One (ev_pos (by simp [bor]) ?_))
  refine ev_bind0 (sp_word_Zero ha) (ev_bind0 sp_ref_One (ev_pos (by simp) ?_))
  exact ev_bind0 (sp_word_Equal ha ha) (ev_const (by simp))
end Go.Proofs.Ytjbpeomcfcdklaa.Pure
