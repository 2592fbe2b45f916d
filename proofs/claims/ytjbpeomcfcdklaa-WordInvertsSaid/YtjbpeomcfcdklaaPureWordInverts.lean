/- The inverse of any word modulo 2^64 is as the document defines it; an even word has none. No conditions. -/
import Derived.Test.YtjbpeomcfcdklaaSp1b
namespace Go.Proofs.Ytjbpeomcfcdklaa.Pure
open Go.RowKit Go.Proofs.Ytjbpeomcfcdklaa.X Go.Proofs.YtjbpeomcfcdklaaW.PrintWords Go.Proofs.YtjbpeomcfcdklaaW.PrintLast Go.Proofs.Ytjbpeomcfcdklaa.Ma

theorem WordInverts : sconcelaw01_WordInverts.Pure := by
  intro a ha
  rw [wd_wf] at ha
  have ha' := wd_iff.1 ha
  refine Ev.rounds ?_
  unfold sconcelaw01_WordInverts.f
  obtain ⟨x, hx, ex⟩ := sp_word_Inverse ha
  obtain ⟨y, hy, ey⟩ := sp_ref_Inverse ha
  obtain rfl := hx.uniq hy
  refine ev_bind awake1 (ev_pos rfl (ev_bind ex (ev_bind ey (ev_pos rfl ?_))))
  rw [show Int.tmod a 2 = a % 2 from Int.tmod_eq_emod_of_nonneg ha'.1]
  by_cases h : a % 2 = 0
  · exact ev_pos h (ev_const rfl)
  · refine ev_neg h (ev_const ?_)
    obtain ⟨q, hq⟩ := hx.2.1 (by omega)
    rw [wU, show a * x = 1 + 18446744073709551616 * q by omega]
    simp only [Option.some.injEq, beq_iff_eq]
    omega
end Go.Proofs.Ytjbpeomcfcdklaa.Pure
