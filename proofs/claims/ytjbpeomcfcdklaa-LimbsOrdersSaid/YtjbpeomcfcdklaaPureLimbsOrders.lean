/- Of any two numbers of words just one is below the other, or they are alike; nothing is below 0. No conditions. -/
import Derived.Test.YtjbpeomcfcdklaaX38
import Derived.Test.YtjbpeomcfcdklaaSp4
namespace Go.Proofs.Ytjbpeomcfcdklaa.Pure
open Go.RowKit Go.Proofs.Ytjbpeomcfcdklaa.X Go.Proofs.YtjbpeomcfcdklaaW.PrintWords Go.Proofs.YtjbpeomcfcdklaaW.PrintLast Go.Proofs.Ytjbpeomcfcdklaa.Ma

theorem LimbsOrders : sconcelaw04_LimbsOrders.Pure := by
  intro a b _ _ ha _ _ hb
  rw [wf_Wd] at ha hb
  refine Ev.rounds ?_
  unfold sconcelaw04_LimbsOrders.f
  refine ev_bind0 awake4 (ev_pos rfl (ev_bind (sp_few4 _ (by simp)) ?_))
  by_cases h : fewB 200 [a, b] = true
  · have h' : a.length ≤ 200 ∧ b.length ≤ 200 := by simpa [fewB] using h
    have hz : nW ([] : List Int) = 0 := rfl
    refine ev_pos h (ev_bind0 (sp_limbs_Less ha hb (by omega)) (ev_bind0 (sp_limbs_Less hb ha (by omega)) (ev_bind0 (sp_limbs_Equal ha hb (by omega)) ?_)))
    refine ev_pos ?_ ?_
    · rcases Nat.lt_trichotomy (nW a) (nW b) with h1 | h1 | h1
      · rw [if_pos h1, if_neg (by omega), if_neg (by omega)]; decide
      · rw [if_neg (by omega), if_neg (by omega), if_pos h1]; decide
      · rw [if_neg (by omega), if_pos h1, if_neg (by omega)]; decide
    · refine ev_bind0 (sp_limbs_Less ha Wd_nil (by simp; omega)) (ev_pos (by rw [hz, if_neg (by omega)]) ?_)
      refine ev_bind0 (sp_limbs_Less Wd_nil ha (by simp; omega)) (ev_bind0 (sp_limbs_Zero ha (by omega)) (ev_const ?_))
      rw [hz]
      by_cases h1 : nW a = 0
      · rw [if_neg (by omega), if_pos h1]; decide
      · rw [if_pos (by omega), if_neg h1]; decide
  · exact ev_neg h (ev_const rfl)
end Go.Proofs.Ytjbpeomcfcdklaa.Pure
