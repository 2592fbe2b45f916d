/- Layer 4: sums, differences, choices of words, as numbers; the references' answers. -/
import Derived.Test.YtjbpeomcfcdklaaX2
import Derived.Test.YtjbpeomcfcdklaaX3
import Derived.Test.YtjbpeomcfcdklaaX4
import Derived.Test.YtjbpeomcfcdklaaX5
import Derived.Test.YtjbpeomcfcdklaaX7
import Derived.Test.YtjbpeomcfcdklaaX10
import Derived.Test.YtjbpeomcfcdklaaX11
import Derived.Test.YtjbpeomcfcdklaaX12
import Derived.Test.YtjbpeomcfcdklaaX13
import Derived.Test.YtjbpeomcfcdklaaX15
import Derived.Test.YtjbpeomcfcdklaaX17
import Derived.Test.YtjbpeomcfcdklaaX19
import Derived.Test.YtjbpeomcfcdklaaX20
import Derived.Test.YtjbpeomcfcdklaaX21
import Derived.Test.YtjbpeomcfcdklaaSp1
import Derived.Test.YtjbpeomcfcdklaaSp3
namespace Go.Proofs.Ytjbpeomcfcdklaa.X
open Go.RowKit Go.Proofs.YtjbpeomcfcdklaaW.PrintWords Go.Proofs.YtjbpeomcfcdklaaW.PrintLast Go.Proofs.YtjbpeomcfcdklaaW.PrintMore Go.Proofs.Ytjbpeomcfcdklaa.Ma
set_option linter.unusedVariables false

/-- A list of words. -/
abbrev Wd (l : List Int) : Prop := dg ((18446744073709551616 : Nat) : Int) l
theorem wd_all {l : List Int} : l.all wd = true ↔ Wd l := wds_dg
/-- Its number. -/
abbrev nW (l : List Int) : Nat := num 18446744073709551616 l
/-- n words of a number. -/
abbrev wds (n x : Nat) : List Int := dgs 18446744073709551616 n x
theorem wds_Wd (n x : Nat) : Wd (wds n x) := dgs_dg (by decide) _ _
theorem Wd_eq {l : List Int} (h : Wd l) : l = wds l.length (nW l) := (dgs_num h).symm
theorem nW_lt {l : List Int} (h : Wd l) : nW l < 18446744073709551616 ^ l.length := num_lt h
theorem nW_wds {n x : Nat} (h : x < 18446744073709551616 ^ n) : nW (wds n x) = x := by
  show num _ (dgs _ _ _) = x
  rw [num_dgs, Nat.mod_eq_of_lt h]
theorem vs_nW {l : List Int} (h : Wd l) {n : Nat} (hn : l.length ≤ n) : vs 18446744073709551616 (at0 l) n = (nW l : Int) := by
  rw [vs_ge l n hn]; exact val_num h
theorem nW_lt' {l : List Int} (h : Wd l) {n : Nat} (hn : l.length ≤ n) : nW l < 18446744073709551616 ^ n := Nat.lt_of_lt_of_le (nW_lt h) (Nat.pow_le_pow_right (by decide) hn)
theorem cast_pow (n : Nat) : ((18446744073709551616 ^ n : Nat) : Int) = 18446744073709551616 ^ n := by simp
/-- A list made place by place, by its number. -/
theorem mk_wds {f : Nat → Int} {n x : Nat} (hf : ∀ i, i < n → 0 ≤ f i ∧ f i < 18446744073709551616) (hx : vs 18446744073709551616 f n = (x : Int)) : mk f n = wds n x := by
  have hd : Wd (mk f n) := dg_mk hf
  have e : nW (mk f n) = x := by
    have h1 := val_num hd
    have h2 : val ((18446744073709551616 : Nat) : Int) (mk f n) = vs 18446744073709551616 f n := val_mk f n
    rw [h2, hx] at h1
    exact_mod_cast h1.symm
  have h3 := Wd_eq hd
  rw [mk_length, e] at h3
  exact h3
theorem bit_cases (c : Int) : c % 2 = 0 ∨ c % 2 = 1 := by omega

theorem sp_limbs_AddIf {c : Int} {a b : List Int} (hc : wd c = true) (ha : Wd a) (hb : Wd b) (hn : max a.length b.length ≤ 35184372088832) :
    limbs_AddIf.f c a b = some (wds (max a.length b.length) (nW a + (if c % 2 = 1 then nW b else 0)), (((nW a + (if c % 2 = 1 then nW b else 0)) / 18446744073709551616 ^ (max a.length b.length) : Nat) : Int)) := by
  unfold limbs_AddIf.f
  rw [if_pos ⟨⟨hc, hn⟩, wd_all.2 ha, wd_all.2 hb⟩]
  have hs := sumA (m := c % 2) (a := a) (b := b) (max a.length b.length)
  rw [vs_nW ha (Nat.le_max_left _ _), vs_nW hb (Nat.le_max_right _ _)] at hs
  have hcy := cyA_bit (m := c % 2) (bit_cases c) ha hb (max a.length b.length)
  have hdg : ∀ i, i < max a.length b.length → 0 ≤ dgA (c % 2) a b i ∧ dgA (c % 2) a b i < 18446744073709551616 := fun i _ => by unfold dgA; omega
  generalize max a.length b.length = n at *
  have hm : (c % 2) * (nW b : Int) = ((if c % 2 = 1 then nW b else 0 : Nat) : Int) := by
    rcases bit_cases c with h | h <;> rw [h] <;> simp
  rw [hm] at hs
  generalize (if c % 2 = 1 then nW b else 0) = y at *
  have h0 := vs_nonneg (B := 18446744073709551616) (by decide) n (fun i hi => (hdg i hi).1)
  have h1 := vs_lt (B := 18446744073709551616) (by decide) n hdg
  obtain ⟨v, hv⟩ := Int.eq_ofNat_of_zero_le h0
  obtain ⟨q, hq⟩ := Int.eq_ofNat_of_zero_le hcy.1
  rw [mk_wds (x := v) hdg hv, hq]
  rw [hv] at hs h1
  rw [hq, ← cast_pow] at hs
  rw [← cast_pow] at h1
  have hs' : v + 18446744073709551616 ^ n * q = nW a + y := by rw [Nat.mul_comm]; exact_mod_cast hs
  have h1' : v < 18446744073709551616 ^ n := by exact_mod_cast h1
  rw [← hs', Nat.add_mul_div_left _ _ (Nat.pow_pos (by decide)), Nat.div_eq_of_lt h1', Nat.zero_add]
  congr 2
  show dgs _ _ _ = dgs _ _ _
  rw [← dgs_mod n (v + 18446744073709551616 ^ n * q), Nat.add_mul_mod_self_left, dgs_mod]
theorem sp_limbs_SubIf {c : Int} {a b : List Int} (hc : wd c = true) (ha : Wd a) (hb : Wd b) (hn : max a.length b.length ≤ 35184372088832) :
    limbs_SubIf.f c a b = some (if nW a < (if c % 2 = 1 then nW b else 0) then (wds (max a.length b.length) (nW a + 18446744073709551616 ^ (max a.length b.length) - (if c % 2 = 1 then nW b else 0)), 1) else (wds (max a.length b.length) (nW a - (if c % 2 = 1 then nW b else 0)), 0)) := by
  unfold limbs_SubIf.f
  rw [if_pos ⟨⟨hc, hn⟩, wd_all.2 ha, wd_all.2 hb⟩]
  have hs := subS (m := c % 2) (bit_cases c) (a := a) (b := b) ha hb (max a.length b.length)
  rw [vs_nW ha (Nat.le_max_left _ _), vs_nW hb (Nat.le_max_right _ _)] at hs
  have hcy := cyS_bit (m := c % 2) (a := a) (b := b) (max a.length b.length)
  have hdg : ∀ i, i < max a.length b.length → 0 ≤ dgS (c % 2) a b i ∧ dgS (c % 2) a b i < 18446744073709551616 := fun i _ => by unfold dgS; omega
  have la := nW_lt' ha (Nat.le_max_left a.length b.length)
  have lb := nW_lt' hb (Nat.le_max_right a.length b.length)
  generalize max a.length b.length = n at *
  have hm : (c % 2) * (nW b : Int) = ((if c % 2 = 1 then nW b else 0 : Nat) : Int) := by
    rcases bit_cases c with h | h <;> rw [h] <;> simp
  have ly : (if c % 2 = 1 then nW b else 0) < 18446744073709551616 ^ n := by split <;> omega
  rw [hm] at hs
  generalize (if c % 2 = 1 then nW b else 0) = y at *
  have h0 := vs_nonneg (B := 18446744073709551616) (by decide) n (fun i hi => (hdg i hi).1)
  have h1 := vs_lt (B := 18446744073709551616) (by decide) n hdg
  rw [← cast_pow] at hs h1
  generalize 18446744073709551616 ^ n = P at *
  split
  · rename_i hlt
    have e : cyS (c % 2) a b n = 1 := by
      have : cyS (c % 2) a b n = 0 ∨ cyS (c % 2) a b n = 1 := by omega
      rcases this with h | h
      · rw [h] at hs; omega
      · exact h
    rw [e] at hs ⊢
    rw [mk_wds (x := nW a + P - y) hdg (by rw [hs]; omega)]
  · rename_i hge
    have e : cyS (c % 2) a b n = 0 := by
      have : cyS (c % 2) a b n = 0 ∨ cyS (c % 2) a b n = 1 := by omega
      rcases this with h | h
      · exact h
      · rw [h] at hs; omega
    rw [e] at hs ⊢
    rw [mk_wds (x := nW a - y) hdg (by rw [hs]; omega)]
theorem wd_one : wd 1 = true := by decide
theorem sp_limbs_Add {a b : List Int} (ha : Wd a) (hb : Wd b) (hn : max a.length b.length ≤ 35184372088832) :
    limbs_Add.f a b = some (wds (max a.length b.length) (nW a + nW b), (((nW a + nW b) / 18446744073709551616 ^ (max a.length b.length) : Nat) : Int)) := by
  unfold limbs_Add.f; rw [sp_limbs_AddIf wd_one ha hb hn]; rfl
theorem sp_limbs_Sub {a b : List Int} (ha : Wd a) (hb : Wd b) (hn : max a.length b.length ≤ 35184372088832) :
    limbs_Sub.f a b = some (if nW a < nW b then (wds (max a.length b.length) (nW a + 18446744073709551616 ^ (max a.length b.length) - nW b), 1) else (wds (max a.length b.length) (nW a - nW b), 0)) := by
  unfold limbs_Sub.f; rw [sp_limbs_SubIf wd_one ha hb hn]; rfl
theorem sp_limbs_Less {a b : List Int} (ha : Wd a) (hb : Wd b) (hn : max a.length b.length ≤ 35184372088832) :
    limbs_Less.f a b = some (if nW a < nW b then 1 else 0) := by
  unfold limbs_Less.f; rw [sp_limbs_Sub ha hb hn]
  simp only [Option.bind_some]
  congr 1; split <;> rfl
theorem sp_limbs_Select {c : Int} {a b : List Int} (hc : wd c = true) (ha : Wd a) (hb : Wd b) (hn : max a.length b.length ≤ 35184372088832) :
    limbs_Select.f c a b = some (wds (max a.length b.length) (if c % 2 = 1 then nW a else nW b)) := by
  unfold limbs_Select.f
  rw [if_pos ⟨⟨hc, hn⟩, wd_all.2 ha, wd_all.2 hb⟩]
  congr 1
  split
  · exact mk_wds (fun i _ => at0_dg (by decide) ha i) (vs_nW ha (Nat.le_max_left _ _))
  · exact mk_wds (fun i _ => at0_dg (by decide) hb i) (vs_nW hb (Nat.le_max_right _ _))
theorem sp_limbs_Equal {a b : List Int} (ha : Wd a) (hb : Wd b) (hn : max a.length b.length ≤ 35184372088832) :
    limbs_Equal.f a b = some (if nW a = nW b then 1 else 0) := by
  unfold limbs_Equal.f
  rw [if_pos ⟨hn, wd_all.2 ha, wd_all.2 hb⟩, vs_nW ha (Nat.le_max_left _ _), vs_nW hb (Nat.le_max_right _ _)]
  simp only [Int.natCast_inj]
theorem Wd_nil : Wd [] := dg_nil
theorem sp_limbs_Zero {a : List Int} (ha : Wd a) (hn : a.length ≤ 35184372088832) : limbs_Zero.f a = some (if nW a = 0 then 1 else 0) := by
  unfold limbs_Zero.f; rw [sp_limbs_Equal ha Wd_nil (by simpa using hn)]; rfl

/-! ### the references -/
theorem blen_nW {l : List Int} (h : Wd l) : blen (nW l) ≤ 2 * l.length := blen_le (by rw [← W_pow]; exact nW_lt h)
theorem sp_OfW {l : List Int} (hl : Wd l) (hn : l.length ≤ 1000000000) : Ev (fun k => sconceref03_Of.f k l) (big (nW l)) := sp_Of hl hn
theorem sp_long (a b : List Int) : sconceref04_long.f a b = some ((max a.length b.length : Nat) : Int) := by
  unfold sconceref04_long.f mx; congr 1; split <;> omega
theorem pow_2_64 (n : Nat) : 1 * 2 ^ (64 * n) = 18446744073709551616 ^ n := by rw [Nat.one_mul, Nat.pow_mul]
theorem sp_top {n : Nat} (hn : n ≤ 1000000) : Ev (fun k => sconceref04_top.f k (n : Int)) (big (18446744073709551616 ^ n)) := by
  unfold sconceref04_top.f
  refine ev_bind (sp_Small (w := 1) (by decide)) ?_
  have e : wrap64 (64 * (n : Int)) = ((64 * n : Nat) : Int) := by rw [w64 (by omega) (by omega)]; omega
  rw [e]
  refine ev_bind (sp_Shl (x := 1) (n := 64 * n) (by decide) (by omega)) ?_
  rw [pow_2_64]
  exact ev_const rfl
theorem blen_add {x y n : Nat} (hx : blen x ≤ n) (hy : blen y ≤ n) : blen (x + y) ≤ n + 1 := by
  refine blen_le ?_
  have h1 := Nat.lt_of_lt_of_le (blen_lt x) (Nat.pow_le_pow_right (show 0 < 4294967296 by decide) hx)
  have h2 := Nat.lt_of_lt_of_le (blen_lt y) (Nat.pow_le_pow_right (show 0 < 4294967296 by decide) hy)
  rw [Nat.pow_succ]; omega
theorem cmp_ge (x y : Nat) : decide (cmpI x y ≥ 0) = decide (y ≤ x) := by unfold cmpI; split <;> (try split) <;> simp <;> omega
theorem cmp_lt (x y : Nat) : decide (cmpI x y < 0) = decide (x < y) := by unfold cmpI; split <;> (try split) <;> simp <;> omega
theorem cmp_eq (x y : Nat) : (cmpI x y == 0) = decide (x = y) := by
  unfold cmpI
  split
  · rw [show decide (x = y) = false from decide_eq_false (by omega)]; rfl
  · split
    · rw [show decide (x = y) = true from decide_eq_true (by assumption)]; rfl
    · rw [show decide (x = y) = false from decide_eq_false (by assumption)]; rfl
theorem blen_Wpow (n : Nat) : blen (18446744073709551616 ^ n) ≤ 2 * n + 1 := blen_le (by rw [W_pow]; exact Nat.pow_lt_pow_right (by decide) (by omega))
section
variable {a b : List Int}
theorem sp_ref4_Add (ha : Wd a) (hb : Wd b) (la : a.length ≤ 100000) (lb : b.length ≤ 100000) :
    Ev (fun k => sconceref04_Add.f k a b) (wds (max a.length b.length) (nW a + nW b), (((nW a + nW b) / 18446744073709551616 ^ (max a.length b.length) : Nat) : Int)) := by
  have xa := blen_nW ha
  have xb := blen_nW hb
  have na := nW_lt' ha (Nat.le_max_left a.length b.length)
  have nb := nW_lt' hb (Nat.le_max_right a.length b.length)
  have hs := blen_add (n := 200000) (x := nW a) (y := nW b) (by omega) (by omega)
  unfold sconceref04_Add.f
  refine ev_bind0 (sp_long a b) (ev_bind (sp_OfW ha (by omega)) (ev_bind (sp_OfW hb (by omega)) (ev_bind (sp_Add (by omega) (by omega)) ?_)))
  refine ev_bind (sp_Nat (by omega)) (ev_bind (sp_top (by omega)) (ev_bind (sp_Cmp (by omega)) (ev_bind0 sp_ref_One (ev_const ?_))))
  rw [Int.toNat_natCast, cmp_ge]
  generalize 18446744073709551616 ^ max a.length b.length = P at *
  congr 2
  simp only [decide_eq_true_eq]
  split
  · rw [show (nW a + nW b) / P = 1 from Nat.div_eq_of_lt_le (by omega) (by omega)]; rfl
  · rw [Nat.div_eq_of_lt (by omega)]; rfl
theorem sp_ref4_Sub (ha : Wd a) (hb : Wd b) (la : a.length ≤ 100000) (lb : b.length ≤ 100000) :
    Ev (fun k => sconceref04_Sub.f k a b) (if nW a < nW b then (wds (max a.length b.length) (nW a + 18446744073709551616 ^ (max a.length b.length) - nW b), 1) else (wds (max a.length b.length) (nW a - nW b), 0)) := by
  have xa := blen_nW ha
  have xb := blen_nW hb
  have nb := nW_lt' hb (Nat.le_max_right a.length b.length)
  have ht := blen_Wpow (max a.length b.length)
  have hs := blen_add (n := 200001) (x := nW a) (y := 18446744073709551616 ^ max a.length b.length) (by omega) (by omega)
  unfold sconceref04_Sub.f
  refine ev_bind0 (sp_long a b) (ev_bind (sp_OfW ha (by omega)) (ev_bind (sp_OfW hb (by omega)) (ev_bind (sp_Cmp (by omega)) ?_)))
  by_cases h : nW a < nW b
  · rw [if_pos h]
    refine ev_pos (by unfold cmpI; rw [if_pos h]; decide) ?_
    refine ev_bind (sp_top (by omega)) (ev_bind (sp_Add (by omega) (by omega)) (ev_bind (sp_Sub (by omega) (by omega)) (ev_bind (sp_Nat (by omega)) (ev_const ?_))))
    rw [Int.toNat_natCast]
  · rw [if_neg h]
    refine ev_neg (by unfold cmpI; rw [if_neg h]; split <;> decide) ?_
    refine ev_bind (sp_Sub (by omega) (by omega)) (ev_bind (sp_Nat (by omega)) (ev_const ?_))
    rw [Int.toNat_natCast]
theorem sp_ref4_Select {c : Int} (hc : wd c = true) (ha : Wd a) (hb : Wd b) (la : a.length ≤ 100000) (lb : b.length ≤ 100000) :
    Ev (fun k => sconceref04_Select.f k c a b) (wds (max a.length b.length) (if c % 2 = 1 then nW a else nW b)) := by
  have hc' := wd_iff.1 hc
  unfold sconceref04_Select.f
  rw [b_and1 hc'.1 hc'.2]
  by_cases h : c % 2 = 1
  · rw [if_pos h]
    refine ev_pos h (ev_bind (sp_OfW ha (by omega)) (ev_bind0 (sp_long a b) (ev_bind (sp_Nat (by omega)) (ev_const ?_))))
    rw [Int.toNat_natCast]
  · rw [if_neg h]
    refine ev_neg h (ev_bind (sp_OfW hb (by omega)) (ev_bind0 (sp_long a b) (ev_bind (sp_Nat (by omega)) (ev_const ?_))))
    rw [Int.toNat_natCast]
theorem sp_ref4_AddIf {c : Int} (hc : wd c = true) (ha : Wd a) (hb : Wd b) (la : a.length ≤ 100000) (lb : b.length ≤ 100000) :
    Ev (fun k => sconceref04_AddIf.f k c a b) (wds (max a.length b.length) (nW a + (if c % 2 = 1 then nW b else 0)), (((nW a + (if c % 2 = 1 then nW b else 0)) / 18446744073709551616 ^ (max a.length b.length) : Nat) : Int)) := by
  have hc' := wd_iff.1 hc
  unfold sconceref04_AddIf.f
  rw [b_and1 hc'.1 hc'.2]
  by_cases h : c % 2 = 1
  · rw [if_pos h]
    exact ev_pos h (ev_bind (sp_ref4_Add ha hb la lb) (ev_const rfl))
  · rw [if_neg h]
    refine ev_neg h (ev_bind (sp_ref4_Select wd_one ha hb la lb) (ev_const ?_))
    rw [Nat.add_zero, Nat.div_eq_of_lt (nW_lt' ha (Nat.le_max_left _ _))]
    rfl
theorem sp_ref4_SubIf {c : Int} (hc : wd c = true) (ha : Wd a) (hb : Wd b) (la : a.length ≤ 100000) (lb : b.length ≤ 100000) :
    Ev (fun k => sconceref04_SubIf.f k c a b) (if nW a < (if c % 2 = 1 then nW b else 0) then (wds (max a.length b.length) (nW a + 18446744073709551616 ^ (max a.length b.length) - (if c % 2 = 1 then nW b else 0)), 1) else (wds (max a.length b.length) (nW a - (if c % 2 = 1 then nW b else 0)), 0)) := by
  have hc' := wd_iff.1 hc
  unfold sconceref04_SubIf.f
  rw [b_and1 hc'.1 hc'.2]
  by_cases h : c % 2 = 1
  · simp only [if_pos h]
    exact ev_bind (sp_ref4_Sub ha hb la lb) (ev_const rfl)
  · simp only [if_neg h]
    refine ev_bind (sp_ref4_Select wd_one ha hb la lb) (ev_const ?_)
    rw [if_neg (show ¬ nW a < 0 by omega), Nat.sub_zero]; rfl
theorem sp_ref4_Less (ha : Wd a) (hb : Wd b) (la : a.length ≤ 100000) (lb : b.length ≤ 100000) : Ev (fun k => sconceref04_Less.f k a b) (if nW a < nW b then 1 else 0) := by
  have xa := blen_nW ha
  unfold sconceref04_Less.f
  refine ev_bind (sp_OfW ha (by omega)) (ev_bind (sp_OfW hb (by omega)) (ev_bind (sp_Cmp (by omega)) (ev_bind0 sp_ref_One (ev_const ?_))))
  rw [cmp_lt]; simp
theorem sp_ref4_Equal (ha : Wd a) (hb : Wd b) (la : a.length ≤ 100000) (lb : b.length ≤ 100000) : Ev (fun k => sconceref04_Equal.f k a b) (if nW a = nW b then 1 else 0) := by
  have xa := blen_nW ha
  unfold sconceref04_Equal.f
  refine ev_bind (sp_OfW ha (by omega)) (ev_bind (sp_OfW hb (by omega)) (ev_bind (sp_Cmp (by omega)) (ev_bind0 sp_ref_One (ev_const ?_))))
  rw [cmp_eq]; simp
theorem blen_eq_zero {x : Nat} : blen x = 0 ↔ x = 0 := by
  constructor
  · intro h
    by_cases hx : x = 0
    · exact hx
    · have := blen_pos hx; omega
  · rintro rfl; rfl
theorem sp_ref4_Zero (ha : Wd a) (la : a.length ≤ 100000) : Ev (fun k => sconceref04_Zero.f k a) (if nW a = 0 then 1 else 0) := by
  unfold sconceref04_Zero.f
  refine ev_bind (sp_OfW ha (by omega)) (ev_bind0 sp_ref_One (ev_const ?_))
  rw [big_length]
  have : ((blen (nW a) : Int) == 0) = decide (nW a = 0) := by
    rw [Bool.eq_iff_iff]; simp [blen_eq_zero]
  rw [this]; simp
end

/-! ### whether numbers are short -/
def fewB (n : Nat) (ls : List (List Int)) : Bool := ls.all fun l => decide (l.length ≤ n)
theorem rdLI (ls : List (List Int)) (i : Nat) : rd_L2 ls (i : Int) = ls.getD i [] := by simp [rd_L2]
theorem few_step {n : Nat} {ls : List (List Int)} {i : Nat} (hi : i < ls.length) : fewB n (ls.drop i) = (decide ((ls.getD i []).length ≤ n) && fewB n (ls.drop (i + 1))) := by
  unfold fewB
  rw [List.drop_eq_getElem_cons hi, List.all_cons]
  simp [hi]
theorem few4_loop (ls : List (List Int)) (hn : ls.length ≤ 1000000000) : ∀ (d i : Nat), i + d = ls.length → Ev (fun k => sconcelaw04_few.l0 k ls (ls.length : Int) (i : Int)) (fewB 200 (ls.drop i)) := by
  intro d
  induction d with
  | zero =>
    intro i hi
    refine Ev.step (fun k => by rw [sconcelaw04_few.l0]) (ev_neg (by omega) (ev_const ?_))
    rw [List.drop_of_length_le (by omega)]; rfl
  | succ d ih =>
    intro i hi
    refine Ev.step (fun k => by rw [sconcelaw04_few.l0, w64_succ (by omega), rdLI]) ?_
    refine ev_pos (by omega) (ev_pos (by omega) (ev_pos (by omega) ?_))
    rw [few_step (show i < ls.length by omega)]
    by_cases h : ((ls.getD i []).length : Int) > 200
    · refine ev_pos h (ev_const ?_)
      rw [show decide ((ls.getD i []).length ≤ 200) = false from decide_eq_false (by omega)]; rfl
    · refine ev_neg h ?_
      rw [show decide ((ls.getD i []).length ≤ 200) = true from decide_eq_true (by omega), Bool.true_and]
      exact ih (i + 1) (by omega)
theorem sp_few4 (ls : List (List Int)) (hn : ls.length ≤ 1000000000) : Ev (fun k => sconcelaw04_few.f k ls) (fewB 200 ls) := by
  unfold sconcelaw04_few.f
  exact few4_loop ls hn ls.length 0 (by omega)
theorem wf_Wd {l : List Int} : (∀ x ∈ l, (Lit.int .u64 x).wf = true) ↔ Wd l := by
  constructor
  · intro h x hx; exact wf_u64.1 (h x hx)
  · intro h x hx; exact wf_u64.2 (h x hx)
theorem awake4 : sconcelaw04_awake.f = some true := by kernel_rfl
theorem sp_both {a b : List Int} {k l : Int} (hn : a.length ≤ 1000000000000) : Ev (fun n => sconcelaw04_both.f n a k b l) (decide (a = b) && (k == l)) := by
  unfold sconcelaw04_both.f
  refine ev_bind (sp_Same hn) ?_
  by_cases h : a = b
  · exact ev_pos (by simp [h]) (ev_const (by simp [h]))
  · exact ev_neg (by simp [h]) (ev_const (by simp [h]))
end Go.Proofs.Ytjbpeomcfcdklaa.X
