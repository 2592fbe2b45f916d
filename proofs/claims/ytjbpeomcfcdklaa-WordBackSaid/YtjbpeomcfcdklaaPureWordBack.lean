/- A word that is put into bytes is got again. No conditions. -/
import Derived.Test.YtjbpeomcfcdklaaSp1c
namespace Go.Proofs.Ytjbpeomcfcdklaa.Pure
open Go.RowKit Go.Proofs.Ytjbpeomcfcdklaa.X Go.Proofs.YtjbpeomcfcdklaaW.PrintWords Go.Proofs.YtjbpeomcfcdklaaW.PrintLast Go.Proofs.Ytjbpeomcfcdklaa.Ma

theorem WordBack : sconcelaw01_WordBack.Pure := by
  intro a ha
  rw [wd_wf] at ha
  refine Ev.rounds ?_
  unfold sconcelaw01_WordBack.f
  refine ev_bind awake1 (ev_pos rfl (ev_bind0 (sp_word_Put ha) (ev_bind (sp_word_Get _) (ev_const ?_))))
  rw [show min (put8 a).length 8 = 8 from rfl, get_put ha]
  simp
end Go.Proofs.Ytjbpeomcfcdklaa.Pure
