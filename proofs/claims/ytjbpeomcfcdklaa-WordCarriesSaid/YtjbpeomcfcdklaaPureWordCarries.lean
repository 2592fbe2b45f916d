/- What is added to a word is taken off again, with the same carry. No conditions. -/
import Derived.Test.YtjbpeomcfcdklaaSp1
namespace Go.Proofs.Ytjbpeomcfcdklaa.Pure
open Go.RowKit Go.Proofs.Ytjbpeomcfcdklaa.X Go.Proofs.YtjbpeomcfcdklaaW.PrintWords Go.Proofs.YtjbpeomcfcdklaaW.PrintLast Go.Proofs.Ytjbpeomcfcdklaa.Ma

theorem WordCarries : sconcelaw01_WordCarries.Pure := by
  intro a b c ha hb hc
  rw [wd_wf] at ha hb hc
  refine Ev.rounds ?_
  unfold sconcelaw01_WordCarries.f
  have ha' := wd_iff.1 ha
  have hb' := wd_iff.1 hb
  have hs : wd ((a + b + c % 2) % 18446744073709551616) = true := wd_iff.2 (by omega)
  refine ev_bind awake1 (ev_pos rfl ?_)
  refine ev_bind0 (sp_word_Add ha hb hc) (ev_bind0 (sp_word_Sub hs hb hc) ?_)
  refine ev_pos (by simp only []; omega) (ev_const ?_)
  simp only [Option.some.injEq, beq_iff_eq]
  unfold bor; split <;> omega
end Go.Proofs.Ytjbpeomcfcdklaa.Pure
