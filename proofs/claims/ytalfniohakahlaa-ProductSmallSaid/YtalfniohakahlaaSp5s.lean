/- The rest by a word, as numbers. -/
import Derived.Test.YtalfniohakahlaaX0
import Derived.Test.YtalfniohakahlaaX16
import Derived.Test.YtalfniohakahlaaBt
import Derived.Test.YtalfniohakahlaaNu
import Derived.Test.YtalfniohakahlaaSp3
import Derived.Test.YtalfniohakahlaaSp4
import Derived.Test.YtalfniohakahlaaNa
import Derived.Test.YtalfniohakahlaaSp5d
import Derived.Test.YtalfniohakahlaaDq
namespace Go.Proofs.Ytalfniohakahlaa.X
open Go.RowKit Go.Proofs.YtalfniohakahlaaW.PrintWords Go.Proofs.YtalfniohakahlaaW.PrintLast Go.Proofs.YtalfniohakahlaaW.PrintMore Go.Proofs.Ytalfniohakahlaa.Ma
set_option linter.unusedVariables false
theorem small_step (A d i : Nat) : (A / 18446744073709551616 ^ (i + 1) % d * 18446744073709551616 + A / 18446744073709551616 ^ i % 18446744073709551616) % d = A / 18446744073709551616 ^ i % d := by
  have e : A / 18446744073709551616 ^ i = A / 18446744073709551616 ^ (i + 1) * 18446744073709551616 + A / 18446744073709551616 ^ i % 18446744073709551616 := by
    rw [Nat.pow_succ, ← Nat.div_div_eq_div_mul]; omega
  generalize A / 18446744073709551616 ^ i % 18446744073709551616 = b at *
  rw [e, Nat.add_mod, Nat.mul_mod, Nat.mod_mod, ← Nat.mul_mod, ← Nat.add_mod]
theorem product_Small_loop {l : List Int} (hl : Wd l) (hn : l.length ≤ 1000000) {d : Nat} (hd0 : d ≠ 0) (hd : d < 18446744073709551616) : ∀ i : Nat, i ≤ l.length →
    Ev (fun k => product_Small.l0 k l (d : Int) ((nW l / 18446744073709551616 ^ i % d : Nat) : Int) ((i : Int) - 1)) (((nW l % d : Nat) : Int), 0)
  | 0, _ => by
    refine Ev.step (fun k => product_Small.l0.eq_2 ..) (ev_neg (by omega) (ev_const ?_))
    rw [Nat.pow_zero, Nat.div_one]
  | i + 1, hi => by
    have e1 : (((i + 1 : Nat) : Int) - 1) = (i : Int) := by omega
    have e2 : wrap64 ((i : Int) - 1) = (i : Int) - 1 := by rw [w64 (by omega) (by omega)]
    rw [e1]
    refine Ev.step (fun k => product_Small.l0.eq_2 ..) (ev_pos (by omega) (ev_pos (by omega) (ev_pos (by omega) ?_)))
    rw [rdA, at0_nW hl, e2]
    have hm := Nat.mod_lt (nW l / 18446744073709551616 ^ (i + 1)) (Nat.pos_of_ne_zero hd0)
    refine ev_bind (sp_Div64 hm (Nat.mod_lt _ (by decide)) hd) ?_
    simp only []
    rw [small_step]
    exact product_Small_loop hl hn hd0 hd i (by omega)
theorem sp_product_Small {l : List Int} (hl : Wd l) (hn : l.length ≤ 1000000) {d : Nat} (hd : d < 18446744073709551616) : Ev (fun k => product_Small.f k l (d : Int)) (if d = 0 then (0, 1) else (((nW l % d : Nat) : Int), 0)) := by
  unfold product_Small.f
  by_cases h : d = 0
  · rw [if_pos h]; exact ev_pos (by omega) (ev_const rfl)
  · rw [if_neg h]
    refine ev_neg (by omega) ?_
    have e : wrap64 ((l.length : Int) - 1) = (l.length : Int) - 1 := by rw [w64 (by omega) (by omega)]
    rw [e]
    have := product_Small_loop hl hn h hd l.length (Nat.le_refl _)
    rw [Nat.div_eq_of_lt (nW_lt hl), Nat.zero_mod] at this
    exact this
theorem ref_Small_loop {l : List Int} (hl : Wd l) (hn : l.length ≤ 1000000) {d : Nat} (hd0 : d ≠ 0) (hd : d < 18446744073709551616) : ∀ i : Nat, i ≤ 64 * l.length →
    Ev (fun k => sconceref05_Small.l0 k l (d : Int) ((nW l / 2 ^ i % d : Nat) : Int) ((i : Int) - 1)) (((nW l % d : Nat) : Int), 0)
  | 0, _ => by
    refine Ev.step (fun k => sconceref05_Small.l0.eq_2 ..) (ev_neg (by omega) (ev_const ?_))
    rw [Nat.pow_zero, Nat.div_one]
  | i + 1, hi => by
    have e1 : (((i + 1 : Nat) : Int) - 1) = (i : Int) := by omega
    have e2 : wrap64 ((i : Int) - 1) = (i : Int) - 1 := by rw [w64 (by omega) (by omega)]
    have e3 : wrap64 (Int.tdiv (i : Int) 64) = ((i / 64 : Nat) : Int) := by rw [Int.tdiv_eq_ediv_of_nonneg (by omega), w64 (by omega) (by omega)]; omega
    have e4 : IntKind.u64.wrap (Int.tmod (i : Int) 64) = ((i % 64 : Nat) : Int) := by rw [Int.tmod_eq_emod_of_nonneg (by omega), wU]; omega
    rw [e1]
    refine Ev.step (fun k => sconceref05_Small.l0.eq_2 ..) ?_
    rw [e2, e3, e4, rdA, shrN _ _ (by omega)]
    refine ev_pos (by omega) (ev_pos (by omega) (ev_pos (by omega) (ev_pos (by omega) ?_)))
    have hb := dq_bit hl i
    have hbw := wd_iff.1 hb.2
    rw [b_and1 hbw.1 hbw.2, hb.1]
    have hr := dq_rest (nW l) d i (Nat.pos_of_ne_zero hd0)
    have hlt := dq_lt (nW l) d i (Nat.pos_of_ne_zero hd0)
    have hm := Nat.mod_lt (nW l / 2 ^ (i + 1)) (Nat.pos_of_ne_zero hd0)
    have hb2 : nW l / 2 ^ i % 2 < 2 := Nat.mod_lt _ (by decide)
    have ih := ref_Small_loop hl hn hd0 hd i (by omega)
    rw [← hr] at ih
    clear hr hb hbw
    generalize nW l / 2 ^ (i + 1) % d = r at *
    generalize nW l / 2 ^ i % 2 = b at *
    have hor : Go.bits .or .u64 (IntKind.u64.wrap ((r : Int) * 2)) (b : Int) = (((2 * r + b) % 18446744073709551616 : Nat) : Int) := by
      have e5 : IntKind.u64.wrap ((r : Int) * 2) = ((2 * r % 18446744073709551616 : Nat) : Int) := by rw [wU]; omega
      rw [e5, b_or_add 1 (by omega) (by omega) (by omega) (by omega) (by omega) (by omega)]
      omega
    rw [hor]
    by_cases ht : 18446744073709551616 ≤ 2 * r + b
    · refine ev_pos (by omega) ?_
      have e6 : IntKind.u64.wrap ((((2 * r + b) % 18446744073709551616 : Nat) : Int) - (d : Int)) = (((2 * r + b) % d : Nat) : Int) := by
        rw [Nat.mod_eq_sub_mod (a := 2 * r + b) (b := d) (by omega), Nat.mod_eq_of_lt (a := 2 * r + b - d) (by omega), wU]
        omega
      rw [e6]
      exact ih
    · refine ev_neg (by omega) ?_
      rw [Nat.mod_eq_of_lt (show 2 * r + b < 18446744073709551616 by omega)]
      by_cases hg : d ≤ 2 * r + b
      · refine ev_pos (by omega) ?_
        have e6 : IntKind.u64.wrap (((2 * r + b : Nat) : Int) - (d : Int)) = (((2 * r + b) % d : Nat) : Int) := by
          rw [Nat.mod_eq_sub_mod hg, Nat.mod_eq_of_lt (a := 2 * r + b - d) (by omega), wU]
          omega
        rw [e6]
        exact ih
      · refine ev_neg (by omega) ?_
        rw [Nat.mod_eq_of_lt (show 2 * r + b < d by omega)] at ih
        exact ih
theorem sp_ref5_Small {l : List Int} (hl : Wd l) (hn : l.length ≤ 1000000) {d : Nat} (hd : d < 18446744073709551616) : Ev (fun k => sconceref05_Small.f k l (d : Int)) (if d = 0 then (0, 1) else (((nW l % d : Nat) : Int), 0)) := by
  unfold sconceref05_Small.f
  by_cases h : d = 0
  · rw [if_pos h]; exact ev_pos (by omega) (ev_const rfl)
  · rw [if_neg h]
    refine ev_neg (by omega) ?_
    have e : wrap64 (wrap64 (64 * (l.length : Int)) - 1) = ((64 * l.length : Nat) : Int) - 1 := by rw [w64 (n := 64 * (l.length : Int)) (by omega) (by omega), w64 (by omega) (by omega)]; omega
    rw [e]
    have := ref_Small_loop hl hn h hd (64 * l.length) (Nat.le_refl _)
    rw [Nat.div_eq_of_lt (by have := nW_lt hl; rw [Nat.pow_mul]; exact this), Nat.zero_mod] at this
    exact this
end Go.Proofs.Ytalfniohakahlaa.X
