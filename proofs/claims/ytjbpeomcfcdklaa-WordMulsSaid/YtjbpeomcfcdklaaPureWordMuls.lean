/- The product of any words, with two more added, as the document defines it. No conditions. -/
import Derived.Test.YtjbpeomcfcdklaaSp1
namespace Go.Proofs.Ytjbpeomcfcdklaa.Pure
open Go.RowKit Go.Proofs.Ytjbpeomcfcdklaa.X Go.Proofs.YtjbpeomcfcdklaaW.PrintWords Go.Proofs.YtjbpeomcfcdklaaW.PrintLast Go.Proofs.Ytjbpeomcfcdklaa.Ma

theorem WordMuls : sconcelaw01_WordMuls.Pure := by
  intro a b c d ha hb hc hd
  rw [wd_wf] at ha hb hc hd
  refine Ev.rounds ?_
  unfold sconcelaw01_WordMuls.f
  refine ev_bind awake1 (ev_pos rfl ?_)
  refine ev_bind0 (sp_word_Mul ha hb hc hd) (ev_bind (sp_ref_Mul ha hb hc hd) ?_)
  exact ev_pos rfl (ev_const (by simp))
end Go.Proofs.Ytjbpeomcfcdklaa.Pure
