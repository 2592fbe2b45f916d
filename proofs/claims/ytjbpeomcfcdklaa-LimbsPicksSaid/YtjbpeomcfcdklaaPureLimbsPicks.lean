/- The number that is picked out of a list of numbers is as the document defines it. No conditions. -/
import Derived.Test.YtjbpeomcfcdklaaPsLimbsPicks
import Derived.Test.YtjbpeomcfcdklaaSp4p
namespace Go.Proofs.Ytjbpeomcfcdklaa.Pure
open Go.RowKit Go.Proofs.Ytjbpeomcfcdklaa.X Go.Proofs.YtjbpeomcfcdklaaW.PrintWords Go.Proofs.YtjbpeomcfcdklaaW.PrintLast Go.Proofs.Ytjbpeomcfcdklaa.Ma

theorem LimbsPicks : sconcelaw04_LimbsPicks.PureS := by
  intro ls b _ hls hb
  rw [wf_u64] at hb
  obtain ⟨i, rfl⟩ := Int.eq_ofNat_of_zero_le hb.1
  have hw : ∀ r ∈ ls, Wd r := fun r hr => wf_Wd.1 (hls r hr).2
  refine Ev.rounds ?_
  unfold sconcelaw04_LimbsPicks.f
  refine ev_bind0 awake4 (ev_pos rfl ?_)
  by_cases h : (ls.length : Int) > 40
  · exact ev_pos h (ev_const rfl)
  · refine ev_neg h (ev_bind (sp_few4 _ (by omega)) ?_)
    by_cases hf : fewB 200 ls = true
    · have hf' : ∀ r ∈ ls, r.length ≤ 200 := by simpa [fewB] using hf
      refine ev_pos hf (ev_bind (sp_limbs_Pick hw (by omega) (fun r hr => by have := hf' r hr; omega) (by omega)) (ev_bind (sp_ref4_Pick hw (by omega) (fun r hr => by have := hf' r hr; omega) (by omega)) (ev_bind (sp_Same ?_) (ev_const (by simp)))))
      rw [mk_length]
      have := mxN_bound hf' ls.length
      omega
    · exact ev_neg hf (ev_const rfl)
end Go.Proofs.Ytjbpeomcfcdklaa.Pure
