/- Products don't hang on the order, and part over sums, whatever the numbers are. No conditions. -/
import Derived.Test.YtalfniohakahlaaX14
import Derived.Test.YtalfniohakahlaaSp5b
namespace Go.Proofs.Ytalfniohakahlaa.Pure
open Go.RowKit Go.Proofs.Ytalfniohakahlaa.X Go.Proofs.YtalfniohakahlaaW.PrintWords Go.Proofs.YtalfniohakahlaaW.PrintLast Go.Proofs.Ytalfniohakahlaa.Ma

theorem mul_of {a b : List Int} (ha : Wd a) (hb : Wd b) : nW (wds (a.length + b.length) (nW a * nW b)) = nW a * nW b :=
  nW_wds (by rw [Nat.pow_add]; exact Nat.mul_lt_mul'' (nW_lt ha) (nW_lt hb))
theorem ProductLaws : sconcelaw05_ProductLaws.Pure := by
  intro a b c _ _ ha _ _ hb _ _ hc
  rw [wf_Wd] at ha hb hc
  refine Ev.rounds ?_
  unfold sconcelaw05_ProductLaws.f
  refine ev_bind awake5 (ev_pos rfl (ev_bind (sp_Few5 _ (by simp)) ?_))
  by_cases h : fewB 40 [a, b, c] = true
  · have h' : a.length ≤ 40 ∧ b.length ≤ 40 ∧ c.length ≤ 40 := by simpa [fewB] using h
    obtain ⟨la, lb, lc⟩ := h'
    have ba := blen_nW ha
    have bb := blen_nW hb
    have bc := blen_nW hc
    have bs := blen_add (n := 80) (x := nW b) (y := nW c) (by omega) (by omega)
    have bab := blen_mul ba bb
    have bac := blen_mul ba bc
    refine ev_pos h (ev_bind (sp_product_Mul ha hb (by omega) (by omega)) (ev_bind (sp_OfW (wds_Wd _ _) (by rw [dgs_length]; omega)) ?_))
    refine ev_bind (sp_product_Mul hb ha (by omega) (by omega)) (ev_bind (sp_OfW (wds_Wd _ _) (by rw [dgs_length]; omega)) ?_)
    refine ev_bind (sp_OfW hb (by omega)) (ev_bind (sp_OfW hc (by omega)) (ev_bind (sp_Add (by omega) (by omega)) (ev_bind (sp_Least (by omega)) ?_)))
    have hwl : wlen (nW b + nW c) ≤ 41 := by
      have : wlen (nW b + nW c) = (blen (nW b + nW c) + 1) / 2 := by unfold wlen blen; split <;> omega
      omega
    have hsl : (wds (max (wlen (nW b + nW c)) 1) (nW b + nW c)).length = max (wlen (nW b + nW c)) 1 := dgs_length _ _ _
    have hsn : nW (wds (max (wlen (nW b + nW c)) 1) (nW b + nW c)) = nW b + nW c := nW_wds (Nat.lt_of_lt_of_le (wlen_lt _) (Nat.pow_le_pow_right (by decide) (by omega)))
    refine ev_bind (sp_product_Mul ha (wds_Wd _ _) (by omega) (by omega)) (ev_bind (sp_OfW (wds_Wd _ _) (by rw [dgs_length]; omega)) ?_)
    refine ev_bind (sp_product_Mul ha hc (by omega) (by omega)) (ev_bind (sp_OfW (wds_Wd _ _) (by rw [dgs_length]; omega)) ?_)
    rw [mul_of ha hb, mul_of hb ha, mul_of ha hc, mul_of ha (wds_Wd _ _), hsn]
    refine ev_bind (sp_Add (by omega) (by omega)) (ev_bind (sp_Cmp (by omega)) (ev_pos ?_ ?_))
    · unfold cmpI
      rw [Nat.mul_comm (nW b), if_neg (by omega), if_pos rfl]
    · have bb2 := blen_mul ba bs
      refine ev_bind (sp_Cmp (by omega)) (ev_const ?_)
      rw [cmp_eq, Nat.mul_add]
      simp
  · exact ev_neg h (ev_const rfl)
end Go.Proofs.Ytalfniohakahlaa.Pure
