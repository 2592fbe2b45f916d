/- Layer 4: what is picked out of a list, as numbers; the references' answer. -/
import Derived.Test.YtjbpeomcfcdklaaX0
import Derived.Test.YtjbpeomcfcdklaaX1
import Derived.Test.YtjbpeomcfcdklaaX25
import Derived.Test.YtjbpeomcfcdklaaX26
import Derived.Test.YtjbpeomcfcdklaaBt
import Derived.Test.YtjbpeomcfcdklaaNu
import Derived.Test.YtjbpeomcfcdklaaSp1
import Derived.Test.YtjbpeomcfcdklaaSp3
import Derived.Test.YtjbpeomcfcdklaaSp4
namespace Go.Proofs.Ytjbpeomcfcdklaa.X
open Go.RowKit Go.Proofs.YtjbpeomcfcdklaaW.PrintWords Go.Proofs.YtjbpeomcfcdklaaW.PrintLast Go.Proofs.YtjbpeomcfcdklaaW.PrintMore Go.Proofs.Ytjbpeomcfcdklaa.Ma
set_option linter.unusedVariables false
theorem mx_maxP (a b : Int) : mx a b = max a b := by unfold mx; omega
theorem mk_congr {f g : Nat → Int} {n : Nat} (h : ∀ p, p < n → f p = g p) : mk f n = mk g n := by
  unfold mk
  apply List.map_congr_left
  intro p hp
  exact h p (List.mem_range.1 hp)
theorem mk_put {f : Nat → Int} {n j : Nat} (y : Int) (h : j < n) : (mk f n).set j y = mk (fun p => if p = j then y else f p) n := by
  apply ext_at0
  · rw [List.length_set, mk_length, mk_length]
  · intro i hi
    rw [List.length_set, mk_length] at hi
    rw [at0_set (by rw [mk_length]; exact h), at0_mk hi, at0_mk hi]
theorem mk_zeros (n : Nat) : List.replicate n (0 : Int) = mk (fun _ => 0) n := by
  apply ext_at0
  · rw [List.length_replicate, mk_length]
  · intro i hi
    rw [List.length_replicate] at hi
    rw [at0_mk hi]
    simp [at0, hi]
/-- The greatest length among the first i. -/
def mxN (ls : List (List Int)) : Nat → Nat
  | 0 => 0
  | i + 1 => max (mxN ls i) (ls.getD i []).length
theorem mxN_le {ls : List (List Int)} : ∀ {i j : Nat}, j < i → (ls.getD j []).length ≤ mxN ls i
  | i + 1, j, h => by
    simp only [mxN]
    rcases Nat.lt_or_ge j i with h1 | h1
    · have := mxN_le (ls := ls) h1; omega
    · rw [show j = i by omega]; omega
theorem mxN_bound {ls : List (List Int)} {B : Nat} (h : ∀ r ∈ ls, r.length ≤ B) : ∀ i, mxN ls i ≤ B
  | 0 => Nat.zero_le _
  | i + 1 => by
    simp only [mxN]
    have h1 := mxN_bound h i
    have h2 : (ls.getD i []).length ≤ B := by
      rcases Nat.lt_or_ge i ls.length with hi | hi
      · rw [List.getD_eq_getElem?_getD, List.getElem?_eq_getElem hi]; exact h _ (List.getElem_mem hi)
      · rw [List.getD_eq_getElem?_getD, List.getElem?_eq_none hi]; exact Nat.zero_le _
    omega
theorem at_p (l : List Int) (i : Nat) : limbs_at.f l (i : Int) = some (at0 l i) := sp_limbs_at l i
theorem pick_inner {ls : List (List Int)} {a2 : Int} {n : Nat} {t : Nat} (hn : n ≤ 1000000) (r : List Int) (hr : r = ls.getD t []) (hrw : Wd r) (f g : Nat → Int) (m : Int) (b : Bool) (hm : m = if b then 18446744073709551615 else 0)
    (hf : ∀ p, p < n → 0 ≤ f p ∧ f p < 18446744073709551616) (hb : b = true → ∀ p, p < n → f p = 0) (hg : ∀ p, p < n → g p = if b then at0 r p else f p)
    (R : List Int) (hK : Ev (fun k => limbs_Pick.l1 k a2 (n : Int) (mk g n) ls (ls.length : Int) ((t + 1 : Nat) : Int)) R) (ht : t < 9223372036854775807) :
    ∀ (d j : Nat), j + d = n → Ev (fun k => limbs_Pick.l2 k a2 (n : Int) (mk (fun p => if p < j then g p else f p) n) r m ls (ls.length : Int) (t : Int) (n : Int) (j : Int)) R := by
  intro d
  induction d with
  | zero =>
    intro j hj
    refine Ev.step (fun k => limbs_Pick.l2.eq_2 ..) (ev_neg (by omega) ?_)
    rw [w64_succ (by omega), mk_congr (g := g) (fun p hp => if_pos (by omega))]
    exact hK
  | succ d ih =>
    intro j hj
    refine Ev.step (fun k => limbs_Pick.l2.eq_2 ..) (ev_pos (by omega) (ev_pos (by omega) (ev_pos (by rw [mk_length]; omega) ?_)))
    refine ev_bind0 (at_p _ _) ?_
    rw [w64_succ (by omega), Int.toNat_natCast, rdA, at0_mk (by omega), if_neg (by omega), mk_put _ (by omega)]
    have hjd := at0_dg (by decide) hrw j
    have hfj := hf j (by omega)
    have e : Go.bits .or .u64 (f j) (Go.bits .and .u64 (at0 r j) m) = g j := by
      rw [hg j (by omega)]
      cases b with
      | true =>
        rw [hm, if_pos rfl, if_pos rfl, b_and_all hjd.1 hjd.2, hb rfl j (by omega), b_0_or hjd.1 hjd.2]
      | false =>
        rw [hm, if_neg (by decide), if_neg (by decide), b_and_0 hjd.1 hjd.2, b_or_0 hfj.1 hfj.2]
    rw [e, mk_congr (g := fun p => if p < j + 1 then g p else f p) (fun p hp => by
      by_cases h1 : p = j
      · subst h1; rw [if_pos rfl, if_pos (by omega)]
      · rw [if_neg h1]
        by_cases h2 : p < j
        · rw [if_pos h2, if_pos (by omega)]
        · rw [if_neg h2, if_neg (by omega)])]
    exact ih (j + 1) (by omega)
theorem pick_outer {ls : List (List Int)} (hw : ∀ r ∈ ls, Wd r) (hl : ls.length ≤ 1000000) {i n : Nat} (hi : i < 18446744073709551616) (hn : n ≤ 1000000) :
    ∀ (d t : Nat), t + d = ls.length → Ev (fun k => limbs_Pick.l1 k (i : Int) (n : Int) (mk (fun p => if i < t then at0 (ls.getD i []) p else 0) n) ls (ls.length : Int) (t : Int)) (mk (fun p => if i < ls.length then at0 (ls.getD i []) p else 0) n) := by
  intro d
  induction d with
  | zero =>
    intro t ht
    refine Ev.step (fun k => limbs_Pick.l1.eq_2 ..) (ev_neg (by omega) (ev_const ?_))
    rw [show t = ls.length by omega]
  | succ d ih =>
    intro t ht
    refine Ev.step (fun k => limbs_Pick.l1.eq_2 ..) (ev_pos (by omega) (ev_pos (by omega) (ev_pos (by omega) (ev_bind0 rfl ?_))))
    have ewt : IntKind.u64.wrap (t : Int) = (t : Int) := by rw [wU]; omega
    rw [ewt]
    refine ev_bind0 (sp_word_Equal (wd_iff.2 ⟨by omega, by omega⟩) (wd_iff.2 ⟨by omega, by omega⟩)) ?_
    refine ev_bind0 (sp_word_Mask (by split <;> decide)) ?_
    rw [rdLI]
    have hrw : ∀ q, Wd (ls.getD q []) := fun q => by
      rcases Nat.lt_or_ge q ls.length with h | h
      · rw [List.getD_eq_getElem?_getD, List.getElem?_eq_getElem h]; exact hw _ (List.getElem_mem h)
      · rw [List.getD_eq_getElem?_getD, List.getElem?_eq_none h]; exact dg_nil
    have := pick_inner (ls := ls) (a2 := (i : Int)) (n := n) (t := t) hn (ls.getD t []) rfl (hrw t) (fun p => if i < t then at0 (ls.getD i []) p else 0) (fun p => if i < t + 1 then at0 (ls.getD i []) p else 0)
      (if (if (t : Int) = (i : Int) then 1 else 0 : Int) % 2 = 1 then 18446744073709551615 else 0) (decide (t = i)) (by
        by_cases h : t = i
        · subst h; simp
        · rw [if_neg (show ¬ ((t : Int) = (i : Int)) by omega)]; simp [h])
      (fun p _ => by
        by_cases h : i < t
        · rw [if_pos h]; exact at0_dg (by decide) (hrw i) p
        · rw [if_neg h]; omega)
      (fun hb p _ => by have := of_decide_eq_true hb; rw [if_neg (by omega)])
      (fun p _ => by
        by_cases h : t = i
        · subst h; simp
        · simp only [h, decide_false, Bool.false_eq_true, if_false]
          by_cases h2 : i < t
          · rw [if_pos h2, if_pos (by omega)]
          · rw [if_neg h2, if_neg (by omega)])
      _ (ih (t + 1) (by omega)) (by omega) n 0 (by omega)
    rw [mk_congr (g := fun p => if i < t then at0 (ls.getD i []) p else 0) (fun p hp => if_neg (by omega))] at this
    exact this
theorem sp_limbs_Pick {ls : List (List Int)} (hw : ∀ r ∈ ls, Wd r) (hl : ls.length ≤ 1000000) (hm : ∀ r ∈ ls, r.length ≤ 1000000) {i : Nat} (hi : i < 18446744073709551616) :
    Ev (fun k => limbs_Pick.f k ls (i : Int)) (mk (fun p => if i < ls.length then at0 (ls.getD i []) p else 0) (mxN ls ls.length)) := by
  unfold limbs_Pick.f
  have hb := mxN_bound hm
  have main : ∀ (d t : Nat), t + d = ls.length → Ev (fun k => limbs_Pick.l0 k ls (i : Int) (mxN ls t : Int) ls (ls.length : Int) (t : Int)) (mk (fun p => if i < ls.length then at0 (ls.getD i []) p else 0) (mxN ls ls.length)) := by
    intro d
    induction d with
    | zero =>
      intro t ht
      have := hb t
      refine Ev.step (fun k => limbs_Pick.l0.eq_2 ..) (ev_neg (by omega) (ev_pos (by omega) (ev_pos (by rw [Int.toNat_natCast]; omega) ?_)))
      rw [Int.toNat_natCast, show t = ls.length by omega, mk_zeros]
      have h2 := pick_outer hw hl hi (hb ls.length) ls.length 0 (by omega)
      rw [mk_congr (g := fun _ => 0) (fun p hp => if_neg (by omega))] at h2
      exact h2
    | succ d ih =>
      intro t ht
      refine Ev.step (fun k => limbs_Pick.l0.eq_2 ..) (ev_pos (by omega) (ev_pos (by omega) (ev_pos (by omega) ?_)))
      rw [w64_succ (by omega), rdLI, mx_maxP]
      have := ih (t + 1) (by omega)
      rw [show (mxN ls (t + 1) : Int) = max (mxN ls t : Int) ((ls.getD t []).length : Int) by simp only [mxN]; omega] at this
      exact this
  exact main ls.length 0 (by omega)
theorem mk_row {l : List Int} {n : Nat} (hl : Wd l) (hn : l.length ≤ n) : mk (fun p => at0 l p) n = wds n (nW l) := by
  rw [mk_wds (x := nW l) (fun i _ => at0_dg (by decide) hl i) (vs_nW hl hn)]
theorem sp_ref4_Pick {ls : List (List Int)} (hw : ∀ r ∈ ls, Wd r) (hl : ls.length ≤ 1000000) (hm : ∀ r ∈ ls, r.length ≤ 100000) {i : Nat} (hi : i < 18446744073709551616) :
    Ev (fun k => sconceref04_Pick.f k ls (i : Int)) (mk (fun p => if i < ls.length then at0 (ls.getD i []) p else 0) (mxN ls ls.length)) := by
  unfold sconceref04_Pick.f
  have hb := mxN_bound hm
  have main : ∀ (d t : Nat), t + d = ls.length → Ev (fun k => sconceref04_Pick.l0 k ls (i : Int) (mxN ls t : Int) ls (ls.length : Int) (t : Int)) (mk (fun p => if i < ls.length then at0 (ls.getD i []) p else 0) (mxN ls ls.length)) := by
    intro d
    induction d with
    | zero =>
      intro t ht
      have hbt := hb ls.length
      refine Ev.step (fun k => sconceref04_Pick.l0.eq_2 ..) (ev_neg (by omega) ?_)
      have ew : IntKind.u64.wrap (ls.length : Int) = (ls.length : Int) := by rw [wU]; omega
      rw [ew, show t = ls.length by omega]
      by_cases h : i < ls.length
      · refine ev_neg (by omega) (ev_pos (by omega) (ev_pos (by omega) ?_))
        have hmem : ls.getD i [] ∈ ls := by rw [List.getD_eq_getElem?_getD, List.getElem?_eq_getElem h]; exact List.getElem_mem h
        rw [rdLI]
        refine ev_bind (sp_OfW (hw _ hmem) (by have := hm _ hmem; omega)) (ev_bind (sp_Nat (by omega)) (ev_const ?_))
        rw [Int.toNat_natCast, mk_congr (g := fun p => at0 (ls.getD i []) p) (fun p hp => if_pos h), mk_row (hw _ hmem) (mxN_le h)]
      · refine ev_pos (by omega) (ev_pos (by omega) (ev_pos (by rw [Int.toNat_natCast]; omega) (ev_const ?_)))
        rw [Int.toNat_natCast, mk_zeros]
        congr 1
        exact mk_congr (fun p hp => (if_neg h).symm)
    | succ d ih =>
      intro t ht
      refine Ev.step (fun k => sconceref04_Pick.l0.eq_2 ..) (ev_pos (by omega) (ev_pos (by omega) (ev_pos (by omega) ?_)))
      rw [w64_succ (by omega), rdLI, mx_maxP]
      have := ih (t + 1) (by omega)
      rw [show (mxN ls (t + 1) : Int) = max (mxN ls t : Int) ((ls.getD t []).length : Int) by simp only [mxN]; omega] at this
      exact this
  exact main ls.length 0 (by omega)
end Go.Proofs.Ytjbpeomcfcdklaa.X
