/- Layer 3, the program's own functions: how many words, how many bits; comparing. -/
import Derived.Test.YtalfniohakahlaaX0
import Derived.Test.YtalfniohakahlaaX1
import Derived.Test.YtalfniohakahlaaX6
import Derived.Test.YtalfniohakahlaaX7
import Derived.Test.YtalfniohakahlaaX8
import Derived.Test.YtalfniohakahlaaBt
import Derived.Test.YtalfniohakahlaaNu
import Derived.Test.YtalfniohakahlaaSp3
import Derived.Test.YtalfniohakahlaaSp4
import Derived.Lib.BitFns
namespace Go.Proofs.Ytalfniohakahlaa.X
open Go.RowKit Go.Proofs.YtalfniohakahlaaW.PrintWords Go.Proofs.YtalfniohakahlaaW.PrintLast Go.Proofs.YtalfniohakahlaaW.PrintMore Go.Proofs.Ytalfniohakahlaa.Ma
set_option linter.unusedVariables false
/-- How many bits a number needs. -/
def bl (x : Nat) : Nat := if x = 0 then 0 else Nat.log2 x + 1
theorem bl_zero : bl 0 = 0 := rfl
theorem bl_lt (x : Nat) : x < 2 ^ bl x := by
  unfold bl; split
  · rename_i h; subst h; simp
  · exact Nat.lt_log2_self
theorem bl_ge {x : Nat} (h : x ≠ 0) : 2 ^ (bl x - 1) ≤ x := by
  unfold bl; rw [if_neg h]; exact Nat.log2_self_le h
theorem bl_pos {x : Nat} (h : x ≠ 0) : 0 < bl x := by unfold bl; rw [if_neg h]; omega
theorem bl_le {x n : Nat} (h : x < 2 ^ n) : bl x ≤ n := by
  by_cases hx : x = 0
  · subst hx; exact Nat.zero_le _
  · have h1 := Nat.lt_of_le_of_lt (bl_ge hx) h
    have h2 := (Nat.pow_lt_pow_iff_right (show 1 < 2 by decide)).1 h1
    have := bl_pos hx
    omega
theorem bl_eq {x n : Nat} (h1 : 2 ^ n ≤ x) (h2 : x < 2 ^ (n + 1)) : bl x = n + 1 := by
  have h3 := bl_le h2
  have h4 := bl_lt x
  have h5 := (Nat.pow_lt_pow_iff_right (show 1 < 2 by decide)).1 (Nat.lt_of_le_of_lt h1 h4)
  omega
theorem bl_eq_zero {x : Nat} : bl x = 0 ↔ x = 0 := by
  constructor
  · intro h; exact Decidable.byContradiction fun hx => by have := bl_pos hx; omega
  · rintro rfl; rfl
theorem bl_mono {x y : Nat} (h : x ≤ y) : bl x ≤ bl y := bl_le (Nat.lt_of_le_of_lt h (bl_lt y))
theorem bl_half {x : Nat} (h : x ≠ 0) : bl x = 1 + bl (x / 2) := by
  by_cases h1 : x / 2 = 0
  · have : x = 1 := by omega
    subst this; decide
  · have a := bl_ge h1
    have b := bl_lt (x / 2)
    have c := bl_pos h1
    have e : 2 ^ bl (x / 2) = 2 * 2 ^ (bl (x / 2) - 1) := by rw [← Nat.pow_succ']; congr 1; omega
    have e2 : 2 ^ (bl (x / 2) + 1) = 2 * 2 ^ bl (x / 2) := Nat.pow_succ' ..
    rw [bl_eq (n := bl (x / 2)) (by omega) (by omega)]; omega
theorem bitLen_bl : ∀ n x : Nat, x < 2 ^ n → x < 2 ^ 64 → Lib.bitLen x = bl x
  | 0, x, h, _ => by
    have : x = 0 := by simpa using h
    subst this; decide
  | n + 1, x, h, h64 => by
    by_cases hx : x = 0
    · subst hx; decide
    · rw [Lib.bitLen_half x hx h64, bl_half hx, bitLen_bl n (x / 2) (by rw [Nat.pow_succ] at h; omega) (by omega)]
/-- How many words a number needs. -/
def wlen (x : Nat) : Nat := if x = 0 then 0 else Nat.log2 x / 64 + 1
theorem W_pow2 (n : Nat) : 18446744073709551616 ^ n = 2 ^ (64 * n) := by rw [Nat.pow_mul]
theorem wlen_lt (x : Nat) : x < 18446744073709551616 ^ wlen x := by
  unfold wlen; split
  · rename_i h; subst h; simp
  · rw [W_pow2]; exact Nat.lt_of_lt_of_le Nat.lt_log2_self (Nat.pow_le_pow_right (by decide) (by omega))
theorem wlen_ge {x : Nat} (h : x ≠ 0) : 18446744073709551616 ^ (wlen x - 1) ≤ x := by
  unfold wlen; rw [if_neg h, W_pow2]
  exact Nat.le_trans (Nat.pow_le_pow_right (by decide) (by omega)) (Nat.log2_self_le h)
theorem wlen_pos {x : Nat} (h : x ≠ 0) : 0 < wlen x := by unfold wlen; rw [if_neg h]; omega
theorem wlen_zero : wlen 0 = 0 := rfl
theorem wlen_le {x n : Nat} (h : x < 18446744073709551616 ^ n) : wlen x ≤ n := by
  by_cases hx : x = 0
  · subst hx; exact Nat.zero_le _
  · have h1 := Nat.lt_of_le_of_lt (wlen_ge hx) h
    have h2 := (Nat.pow_lt_pow_iff_right (show 1 < 18446744073709551616 by decide)).1 h1
    have := wlen_pos hx
    omega
theorem wlen_eq {x n : Nat} (h1 : 18446744073709551616 ^ n ≤ x) (h2 : x < 18446744073709551616 ^ (n + 1)) : wlen x = n + 1 := by
  have h3 := wlen_le h2
  have h4 := wlen_lt x
  have h5 := (Nat.pow_lt_pow_iff_right (show 1 < 18446744073709551616 by decide)).1 (Nat.lt_of_le_of_lt h1 h4)
  omega
theorem wlen_mono {x y : Nat} (h : x ≤ y) : wlen x ≤ wlen y := wlen_le (Nat.lt_of_le_of_lt h (wlen_lt y))
theorem wlen_nW {l : List Int} (h : Wd l) : wlen (nW l) ≤ l.length := wlen_le (nW_lt h)
theorem at0_nW {l : List Int} (h : Wd l) (i : Nat) : at0 l i = ((nW l / 18446744073709551616 ^ i % 18446744073709551616 : Nat) : Int) := at0_num (by decide) h i
theorem least_loop {l : List Int} (hl : Wd l) (hn : l.length ≤ 1000000000) : ∀ i : Nat, i ≤ l.length → nW l < 18446744073709551616 ^ i → Ev (fun k => nat_least.l0 k l (i : Int)) ((wlen (nW l) : Nat) : Int)
  | 0, hi, h => by
    have h0 : nW l = 0 := by simpa using h
    refine Ev.step (fun k => by rw [nat_least.l0]) (ev_neg (by omega) (ev_const ?_))
    rw [h0]; rfl
  | i + 1, hi, h => by
    have e : wrap64 (((i + 1 : Nat) : Int) - 1) = (i : Int) := by rw [w64 (by omega) (by omega)]; omega
    refine Ev.step (fun k => by rw [nat_least.l0]) (ev_pos (by omega) ?_)
    rw [e]
    refine ev_pos (by omega) (ev_pos (by omega) ?_)
    rw [rdA, at0_nW hl]
    have hm : nW l / 18446744073709551616 ^ i % 18446744073709551616 = nW l / 18446744073709551616 ^ i := Nat.mod_eq_of_lt ((Nat.div_lt_iff_lt_mul (Nat.pow_pos (by decide))).2 (by rw [← Nat.pow_succ']; exact h))
    rw [hm]
    by_cases hz : nW l / 18446744073709551616 ^ i = 0
    · refine ev_pos (by rw [hz]; rfl) (least_loop hl hn i (by omega) ?_)
      exact (Nat.div_eq_zero_iff_lt (Nat.pow_pos (by decide))).1 hz
    · refine ev_neg (by omega) (ev_const ?_)
      rw [wlen_eq (n := i) ?_ h]
      exact Nat.le_of_not_lt fun h2 => hz ((Nat.div_eq_zero_iff_lt (Nat.pow_pos (by decide))).2 h2)
theorem sp_nat_least {l : List Int} (hl : Wd l) (hn : l.length ≤ 1000000000) : Ev (fun k => nat_least.f k l) ((wlen (nW l) : Nat) : Int) := by
  unfold nat_least.f
  exact least_loop hl hn l.length (Nat.le_refl _) (nW_lt hl)
theorem bl_top {x n : Nat} (h1 : 18446744073709551616 ^ n ≤ x) : bl x = 64 * n + bl (x / 18446744073709551616 ^ n) := by
  have hp : 0 < 18446744073709551616 ^ n := Nat.pow_pos (by decide)
  have ht : x / 18446744073709551616 ^ n ≠ 0 := fun h => by have := (Nat.div_eq_zero_iff_lt hp).1 h; omega
  have a := bl_ge ht
  have b := bl_lt (x / 18446744073709551616 ^ n)
  have c := bl_pos ht
  generalize bl (x / 18446744073709551616 ^ n) = d at *
  have a' := (Nat.le_div_iff_mul_le hp).1 a
  have b' := (Nat.div_lt_iff_lt_mul hp).1 b
  rw [W_pow2, ← Nat.pow_add] at a' b'
  rw [bl_eq (n := 64 * n + d - 1) (by rw [show 64 * n + d - 1 = d - 1 + 64 * n by omega]; exact a') (by rw [show 64 * n + d - 1 + 1 = d + 64 * n by omega]; exact b')]
  omega
theorem sp_nat_Bits {l : List Int} (hl : Wd l) (hn : l.length ≤ 1000000000) : Ev (fun k => nat_Bits.f k l) ((bl (nW l) : Nat) : Int) := by
  unfold nat_Bits.f
  refine ev_bind (sp_nat_least hl hn) ?_
  have hw := wlen_nW hl
  by_cases h0 : nW l = 0
  · refine ev_pos (by rw [h0]; rfl) (ev_const ?_)
    rw [h0]; rfl
  · have hp := wlen_pos h0
    obtain ⟨n, hn2⟩ : ∃ n, wlen (nW l) = n + 1 := ⟨wlen (nW l) - 1, by omega⟩
    have hge := wlen_ge h0
    have hlt := wlen_lt (nW l)
    rw [hn2] at hge hlt hw ⊢
    rw [Nat.add_sub_cancel] at hge
    have e : wrap64 (((n + 1 : Nat) : Int) - 1) = (n : Int) := by rw [w64 (by omega) (by omega)]; omega
    refine ev_neg (by omega) ?_
    simp only [e]
    refine ev_pos (by omega) (ev_pos (by omega) ?_)
    rw [rdA, at0_nW hl]
    have hm : nW l / 18446744073709551616 ^ n % 18446744073709551616 = nW l / 18446744073709551616 ^ n := Nat.mod_eq_of_lt ((Nat.div_lt_iff_lt_mul (Nat.pow_pos (by decide))).2 (by rw [← Nat.pow_succ']; exact hlt))
    have hlw : nW l / 18446744073709551616 ^ n < 18446744073709551616 := by rw [← hm]; exact Nat.mod_lt _ (by decide)
    rw [hm]
    have hb := bl_top hge
    have hb64 := bl_le (n := 64) (show nW l / 18446744073709551616 ^ n < 2 ^ 64 from hlw)
    refine ev_bind0 (a := ((bl (nW l / 18446744073709551616 ^ n) : Nat) : Int)) ?_ (ev_const ?_)
    · unfold bits_Len64.f
      rw [if_pos ⟨by omega, by omega⟩, Int.toNat_natCast, bitLen_bl 64 _ hlw hlw]
    · rw [hb]
      generalize bl (nW l / 18446744073709551616 ^ n) = d at *
      rw [w64 (n := 64 * (n : Int)) (by omega) (by omega), w64 (by omega) (by omega)]
      congr 1
theorem wlen_bl (x : Nat) : wlen x = (bl x + 63) / 64 := by
  unfold wlen bl
  split
  · rfl
  · omega
theorem fewB_cons (n : Nat) (l : List Int) (ls : List (List Int)) : fewB n (l :: ls) = (decide (l.length ≤ n) && fewB n ls) := rfl
theorem long_loop (ls : List (List Int)) (hn : ls.length ≤ 1000000000) : ∀ (d i : Nat), i + d = ls.length → Ev (fun k => product_long.l0 k ls (ls.length : Int) (i : Int)) (!(fewB 300 (ls.drop i))) := by
  intro d
  induction d with
  | zero =>
    intro i hi
    refine Ev.step (fun k => by rw [product_long.l0]) (ev_neg (by omega) (ev_const ?_))
    rw [List.drop_of_length_le (by omega)]; rfl
  | succ d ih =>
    intro i hi
    refine Ev.step (fun k => by rw [product_long.l0, w64_succ (by omega), rdLI]) ?_
    refine ev_pos (by omega) (ev_pos (by omega) (ev_pos (by omega) ?_))
    rw [few_step (show i < ls.length by omega)]
    by_cases h : ((ls.getD i []).length : Int) > 300
    · refine ev_pos h (ev_const ?_)
      rw [show decide ((ls.getD i []).length ≤ 300) = false from decide_eq_false (by omega)]; rfl
    · refine ev_neg h ?_
      rw [show decide ((ls.getD i []).length ≤ 300) = true from decide_eq_true (by omega), Bool.true_and]
      exact ih (i + 1) (by omega)
theorem sp_product_long (ls : List (List Int)) (hn : ls.length ≤ 1000000000) : Ev (fun k => product_long.f k ls) (!(fewB 300 ls)) := by
  unfold product_long.f
  exact long_loop ls hn ls.length 0 (by omega)
end Go.Proofs.Ytalfniohakahlaa.X
