/- Layer 4: sums, differences, choices of words, as numbers; the references' answers. -/
import Derived.Test.YtalfniohakahlaaX3
import Derived.Test.YtalfniohakahlaaX5
import Derived.Test.YtalfniohakahlaaSp1
import Derived.Test.YtalfniohakahlaaSp3
namespace Go.Proofs.Ytalfniohakahlaa.X
open Go.RowKit Go.Proofs.YtalfniohakahlaaW.PrintWords Go.Proofs.YtalfniohakahlaaW.PrintLast Go.Proofs.YtalfniohakahlaaW.PrintMore Go.Proofs.Ytalfniohakahlaa.Ma
set_option linter.unusedVariables false

/-- A list of words. -/
abbrev Wd (l : List Int) : Prop := dg ((18446744073709551616 : Nat) : Int) l
theorem wd_all {l : List Int} : l.all wd = true ↔ Wd l := wds_dg
/-- Its number. -/
abbrev nW (l : List Int) : Nat := num 18446744073709551616 l
/-- n words of a number. -/
abbrev wds (n x : Nat) : List Int := dgs 18446744073709551616 n x
theorem wds_Wd (n x : Nat) : Wd (wds n x) := dgs_dg (by decide) _ _
theorem Wd_eq {l : List Int} (h : Wd l) : l = wds l.length (nW l) := (dgs_num h).symm
theorem nW_lt {l : List Int} (h : Wd l) : nW l < 18446744073709551616 ^ l.length := num_lt h
theorem nW_wds {n x : Nat} (h : x < 18446744073709551616 ^ n) : nW (wds n x) = x := by
  show num _ (dgs _ _ _) = x
  rw [num_dgs, Nat.mod_eq_of_lt h]
theorem vs_nW {l : List Int} (h : Wd l) {n : Nat} (hn : l.length ≤ n) : vs 18446744073709551616 (at0 l) n = (nW l : Int) := by
  rw [vs_ge l n hn]; exact val_num h
theorem nW_lt' {l : List Int} (h : Wd l) {n : Nat} (hn : l.length ≤ n) : nW l < 18446744073709551616 ^ n := Nat.lt_of_lt_of_le (nW_lt h) (Nat.pow_le_pow_right (by decide) hn)
theorem cast_pow (n : Nat) : ((18446744073709551616 ^ n : Nat) : Int) = 18446744073709551616 ^ n := by simp
/-- A list made place by place, by its number. -/
theorem mk_wds {f : Nat → Int} {n x : Nat} (hf : ∀ i, i < n → 0 ≤ f i ∧ f i < 18446744073709551616) (hx : vs 18446744073709551616 f n = (x : Int)) : mk f n = wds n x := by
  have hd : Wd (mk f n) := dg_mk hf
  have e : nW (mk f n) = x := by
    have h1 := val_num hd
    have h2 : val ((18446744073709551616 : Nat) : Int) (mk f n) = vs 18446744073709551616 f n := val_mk f n
    rw [h2, hx] at h1
    exact_mod_cast h1.symm
  have h3 := Wd_eq hd
  rw [mk_length, e] at h3
  exact h3
theorem bit_cases (c : Int) : c % 2 = 0 ∨ c % 2 = 1 := by omega

theorem sp_limbs_SubIf {c : Int} {a b : List Int} (hc : wd c = true) (ha : Wd a) (hb : Wd b) (hn : max a.length b.length ≤ 35184372088832) :
    limbs_SubIf.f c a b = some (if nW a < (if c % 2 = 1 then nW b else 0) then (wds (max a.length b.length) (nW a + 18446744073709551616 ^ (max a.length b.length) - (if c % 2 = 1 then nW b else 0)), 1) else (wds (max a.length b.length) (nW a - (if c % 2 = 1 then nW b else 0)), 0)) := by
  unfold limbs_SubIf.f
  rw [if_pos ⟨⟨hc, hn⟩, wd_all.2 ha, wd_all.2 hb⟩]
  have hs := subS (m := c % 2) (bit_cases c) (a := a) (b := b) ha hb (max a.length b.length)
  rw [vs_nW ha (Nat.le_max_left _ _), vs_nW hb (Nat.le_max_right _ _)] at hs
  have hcy := cyS_bit (m := c % 2) (a := a) (b := b) (max a.length b.length)
  have hdg : ∀ i, i < max a.length b.length → 0 ≤ dgS (c % 2) a b i ∧ dgS (c % 2) a b i < 18446744073709551616 := fun i _ => by unfold dgS; omega
  have la := nW_lt' ha (Nat.le_max_left a.length b.length)
  have lb := nW_lt' hb (Nat.le_max_right a.length b.length)
  generalize max a.length b.length = n at *
  have hm : (c % 2) * (nW b : Int) = ((if c % 2 = 1 then nW b else 0 : Nat) : Int) := by
    rcases bit_cases c with h | h <;> rw [h] <;> simp
  have ly : (if c % 2 = 1 then nW b else 0) < 18446744073709551616 ^ n := by split <;> omega
  rw [hm] at hs
  generalize (if c % 2 = 1 then nW b else 0) = y at *
  have h0 := vs_nonneg (B := 18446744073709551616) (by decide) n (fun i hi => (hdg i hi).1)
  have h1 := vs_lt (B := 18446744073709551616) (by decide) n hdg
  rw [← cast_pow] at hs h1
  generalize 18446744073709551616 ^ n = P at *
  split
  · rename_i hlt
    have e : cyS (c % 2) a b n = 1 := by
      have : cyS (c % 2) a b n = 0 ∨ cyS (c % 2) a b n = 1 := by omega
      rcases this with h | h
      · rw [h] at hs; omega
      · exact h
    rw [e] at hs ⊢
    rw [mk_wds (x := nW a + P - y) hdg (by rw [hs]; omega)]
  · rename_i hge
    have e : cyS (c % 2) a b n = 0 := by
      have : cyS (c % 2) a b n = 0 ∨ cyS (c % 2) a b n = 1 := by omega
      rcases this with h | h
      · exact h
      · rw [h] at hs; omega
    rw [e] at hs ⊢
    rw [mk_wds (x := nW a - y) hdg (by rw [hs]; omega)]
theorem wd_one : wd 1 = true := by decide
theorem sp_limbs_Sub {a b : List Int} (ha : Wd a) (hb : Wd b) (hn : max a.length b.length ≤ 35184372088832) :
    limbs_Sub.f a b = some (if nW a < nW b then (wds (max a.length b.length) (nW a + 18446744073709551616 ^ (max a.length b.length) - nW b), 1) else (wds (max a.length b.length) (nW a - nW b), 0)) := by
  unfold limbs_Sub.f; rw [sp_limbs_SubIf wd_one ha hb hn]; rfl
theorem sp_limbs_Select {c : Int} {a b : List Int} (hc : wd c = true) (ha : Wd a) (hb : Wd b) (hn : max a.length b.length ≤ 35184372088832) :
    limbs_Select.f c a b = some (wds (max a.length b.length) (if c % 2 = 1 then nW a else nW b)) := by
  unfold limbs_Select.f
  rw [if_pos ⟨⟨hc, hn⟩, wd_all.2 ha, wd_all.2 hb⟩]
  congr 1
  split
  · exact mk_wds (fun i _ => at0_dg (by decide) ha i) (vs_nW ha (Nat.le_max_left _ _))
  · exact mk_wds (fun i _ => at0_dg (by decide) hb i) (vs_nW hb (Nat.le_max_right _ _))
theorem Wd_nil : Wd [] := dg_nil
theorem blen_nW {l : List Int} (h : Wd l) : blen (nW l) ≤ 2 * l.length := blen_le (by rw [← W_pow]; exact nW_lt h)
theorem sp_OfW {l : List Int} (hl : Wd l) (hn : l.length ≤ 1000000000) : Ev (fun k => sconceref03_Of.f k l) (big (nW l)) := sp_Of hl hn
theorem pow_2_64 (n : Nat) : 1 * 2 ^ (64 * n) = 18446744073709551616 ^ n := by rw [Nat.one_mul, Nat.pow_mul]
theorem blen_add {x y n : Nat} (hx : blen x ≤ n) (hy : blen y ≤ n) : blen (x + y) ≤ n + 1 := by
  refine blen_le ?_
  have h1 := Nat.lt_of_lt_of_le (blen_lt x) (Nat.pow_le_pow_right (show 0 < 4294967296 by decide) hx)
  have h2 := Nat.lt_of_lt_of_le (blen_lt y) (Nat.pow_le_pow_right (show 0 < 4294967296 by decide) hy)
  rw [Nat.pow_succ]; omega
theorem cmp_ge (x y : Nat) : decide (cmpI x y ≥ 0) = decide (y ≤ x) := by unfold cmpI; split <;> (try split) <;> simp <;> omega
theorem cmp_lt (x y : Nat) : decide (cmpI x y < 0) = decide (x < y) := by unfold cmpI; split <;> (try split) <;> simp <;> omega
theorem cmp_eq (x y : Nat) : (cmpI x y == 0) = decide (x = y) := by
  unfold cmpI
  split
  · rw [show decide (x = y) = false from decide_eq_false (by omega)]; rfl
  · split
    · rw [show decide (x = y) = true from decide_eq_true (by assumption)]; rfl
    · rw [show decide (x = y) = false from decide_eq_false (by assumption)]; rfl
theorem blen_Wpow (n : Nat) : blen (18446744073709551616 ^ n) ≤ 2 * n + 1 := blen_le (by rw [W_pow]; exact Nat.pow_lt_pow_right (by decide) (by omega))
section
variable {a b : List Int}
theorem blen_eq_zero {x : Nat} : blen x = 0 ↔ x = 0 := by
  constructor
  · intro h
    by_cases hx : x = 0
    · exact hx
    · have := blen_pos hx; omega
  · rintro rfl; rfl
end
def fewB (n : Nat) (ls : List (List Int)) : Bool := ls.all fun l => decide (l.length ≤ n)
theorem rdLI (ls : List (List Int)) (i : Nat) : rd_L2 ls (i : Int) = ls.getD i [] := by simp [rd_L2]
theorem few_step {n : Nat} {ls : List (List Int)} {i : Nat} (hi : i < ls.length) : fewB n (ls.drop i) = (decide ((ls.getD i []).length ≤ n) && fewB n (ls.drop (i + 1))) := by
  unfold fewB
  rw [List.drop_eq_getElem_cons hi, List.all_cons]
  simp [hi]
theorem wf_Wd {l : List Int} : (∀ x ∈ l, (Lit.int .u64 x).wf = true) ↔ Wd l := by
  constructor
  · intro h x hx; exact wf_u64.1 (h x hx)
  · intro h x hx; exact wf_u64.2 (h x hx)
end Go.Proofs.Ytalfniohakahlaa.X
