/- Any word as bytes, any bytes as a word, are as the document defines them. No conditions. -/
import Derived.Test.YtjbpeomcfcdklaaSp1c
namespace Go.Proofs.Ytjbpeomcfcdklaa.Pure
open Go.RowKit Go.Proofs.Ytjbpeomcfcdklaa.X Go.Proofs.YtjbpeomcfcdklaaW.PrintWords Go.Proofs.YtjbpeomcfcdklaaW.PrintLast Go.Proofs.Ytjbpeomcfcdklaa.Ma

theorem WordBytes : sconcelaw01_WordBytes.Pure := by
  intro a l ha _ _ _
  rw [wd_wf] at ha
  refine Ev.rounds ?_
  unfold sconcelaw01_WordBytes.f
  refine ev_bind awake1 (ev_pos rfl ?_)
  by_cases h : (l.length : Int) > 1000
  · exact ev_pos h (ev_const rfl)
  · refine ev_neg h (ev_bind0 (sp_word_Put ha) (ev_bind (sp_ref_Put ha) ?_))
    refine ev_bind0 (a := true) (by unfold sconcelaw01_same.f; simp) (ev_pos rfl ?_)
    exact ev_bind (sp_word_Get l) (ev_bind (sp_ref_Get l) (ev_const (by simp)))
end Go.Proofs.Ytjbpeomcfcdklaa.Pure
