/- Layer 1: what the printed functions of words come to. -/
import Derived.Test.YtjbpeomcfcdklaaX1
import Derived.Test.YtjbpeomcfcdklaaX2
import Derived.Test.YtjbpeomcfcdklaaX4
import Derived.Test.YtjbpeomcfcdklaaX6
import Derived.Test.YtjbpeomcfcdklaaX8
import Derived.Test.YtjbpeomcfcdklaaX11
import Derived.Test.YtjbpeomcfcdklaaBt
namespace Go.Proofs.Ytjbpeomcfcdklaa.X
open Go.RowKit Go.Proofs.YtjbpeomcfcdklaaW.PrintWords Go.Proofs.YtjbpeomcfcdklaaW.PrintLast Go.Proofs.YtjbpeomcfcdklaaW.PrintMore Go.Proofs.Ytjbpeomcfcdklaa.Ma
set_option linter.unusedVariables false

theorem awake1 : Ev (fun k => sconcelaw01_awake.f k) true := Ev.of (fun k => sconcelaw01_awake.mono k) (k := 6) (by kernel_rfl)

theorem sp_word_Add {a b c : Int} (ha : wd a = true) (hb : wd b = true) (hc : wd c = true) : word_Add.f a b c = some ((a + b + c % 2) % 18446744073709551616, (a + b + c % 2) / 18446744073709551616) := by
  rw [wd_iff] at ha hb hc
  unfold word_Add.f; rw [if_pos ⟨⟨ha.1, hb.1⟩, hc⟩]
theorem sp_word_Sub {a b c : Int} (ha : wd a = true) (hb : wd b = true) (hc : wd c = true) : word_Sub.f a b c = some ((a - b - c % 2) % 18446744073709551616, bor a (b + c % 2)) := by
  rw [wd_iff] at ha hb hc
  unfold word_Sub.f; rw [if_pos ⟨⟨ha.1, hb⟩, hc⟩]
theorem sp_word_Less {a b : Int} (ha : wd a = true) (hb : wd b = true) : word_Less.f a b = some (bor a b) := by
  rw [wd_iff] at ha hb
  unfold word_Less.f; rw [if_pos ⟨ha.1, hb⟩]
theorem sp_word_Mul {a b c d : Int} (ha : wd a = true) (hb : wd b = true) (hc : wd c = true) (hd : wd d = true) : word_Mul.f a b c d = some ((a * b + c + d) / 18446744073709551616, (a * b + c + d) % 18446744073709551616) := by
  rw [wd_iff] at ha hb hc hd
  unfold word_Mul.f; rw [if_pos ⟨⟨ha, hb⟩, hc, hd⟩]
theorem sp_word_Mask {a : Int} (ha : wd a = true) : word_Mask.f a = some (if a % 2 = 1 then 18446744073709551615 else 0) := by
  rw [wd_iff] at ha
  unfold word_Mask.f; rw [b_and1 ha.1 ha.2, wU]
  congr 1; split <;> omega
theorem sp_word_Select {a b c : Int} (ha : wd a = true) (hb : wd b = true) (hc : wd c = true) : word_Select.f a b c = some (if a % 2 = 1 then b else c) := by
  unfold word_Select.f; rw [sp_word_Mask ha]
  rw [wd_iff] at hb hc
  simp only [Option.bind_some]
  congr 1
  split
  · rw [b_and_all hb.1 hb.2, b_andNot_all hc.1 hc.2, b_or_0 hb.1 hb.2]
  · rw [b_and_0 hb.1 hb.2, b_andNot_0 hc.1 hc.2, b_0_or hc.1 hc.2]
theorem sp_word_Zero {a : Int} (ha : wd a = true) : word_Zero.f a = some (if a = 0 then 1 else 0) := by
  rw [wd_iff] at ha
  unfold word_Zero.f; rw [wU]
  congr 1
  by_cases h : a = 0
  · subst h; rw [if_pos rfl]; rfl
  · rw [if_neg h]
    have e : (-a) % 18446744073709551616 = 18446744073709551616 - a := by omega
    rw [e]
    have hg := b_or_ge ha.1 ha.2 (b := 18446744073709551616 - a) (by omega) (by omega)
    have hl := b_or_lt ha.1 ha.2 (b := 18446744073709551616 - a) (by omega) (by omega)
    have e1 : Go.bits .or .u64 a (18446744073709551616 - a) / 9223372036854775808 = 1 := by omega
    rw [e1]; rfl
theorem sp_word_Equal {a b : Int} (ha : wd a = true) (hb : wd b = true) : word_Equal.f a b = some (if a = b then 1 else 0) := by
  unfold word_Equal.f
  rw [wd_iff] at ha hb
  rw [sp_word_Zero (wd_iff.2 (b_xor_lt ha.1 ha.2 hb.1 hb.2))]
  simp only [Option.bind_some, b_xor_zero ha.1 ha.2 hb.1 hb.2]
theorem sp_ref_One {b : Bool} : sconceref01_One.f b = some (if b = true then 1 else 0) := by
  unfold sconceref01_One.f; split <;> rfl
theorem sp_ref_Add {a b c : Int} (ha : wd a = true) (hb : wd b = true) (hc : wd c = true) : sconceref01_Add.f a b c = some ((a + b + c % 2) % 18446744073709551616, (a + b + c % 2) / 18446744073709551616) := by
  rw [wd_iff] at ha hb hc
  unfold sconceref01_Add.f; rw [b_and1 hc.1 hc.2]; simp only [wU]
  split
  · congr 2 <;> omega
  · split <;> (congr 2 <;> omega)
theorem sp_ref_Sub {a b c : Int} (ha : wd a = true) (hb : wd b = true) (hc : wd c = true) : sconceref01_Sub.f a b c = some ((a - b - c % 2) % 18446744073709551616, bor a (b + c % 2)) := by
  rw [wd_iff] at ha hb hc
  unfold sconceref01_Sub.f bor; rw [b_and1 hc.1 hc.2]; simp only [wU]
  split
  · rw [if_pos (by omega)]; congr 2; omega
  · split
    · rw [if_pos (by omega)]; congr 2; omega
    · rw [if_neg (by omega)]; congr 2; omega
theorem sp_ref_Mask {a : Int} (ha : wd a = true) : sconceref01_Mask.f a = some (if a % 2 = 1 then 18446744073709551615 else 0) := by
  rw [wd_iff] at ha
  unfold sconceref01_Mask.f; rw [b_and1 ha.1 ha.2]; split <;> rfl
theorem sp_ref_Select {a b c : Int} (ha : wd a = true) : sconceref01_Select.f a b c = some (if a % 2 = 1 then b else c) := by
  rw [wd_iff] at ha
  unfold sconceref01_Select.f; rw [b_and1 ha.1 ha.2]; split <;> rfl

/-! ### the product, bit by bit -/
theorem two_mul_div (b : Int) (i : Nat) : b / 2 ^ i = 2 * (b / 2 ^ (i + 1)) + b / 2 ^ i % 2 := by
  have e : (2 : Int) ^ (i + 1) = 2 ^ i * 2 := Int.pow_succ 2 i
  rw [e, ← Int.ediv_ediv_of_nonneg (Int.pow_nonneg (by decide))]
  omega
theorem ref_Mul_loop {a b c d : Int} (ha : wd a = true) (hb : wd b = true) (hc : wd c = true) (hd : wd d = true) : ∀ (n : Nat), n ≤ 64 → ∀ (hi lo : Int),
    hi * 18446744073709551616 + lo = a * (b / 2 ^ n) → 0 ≤ lo → lo < 18446744073709551616 → 0 ≤ hi →
    Ev (fun k => sconceref01_Mul.l0 k a b c d hi lo (n - 1 : Int)) ((a * b + c + d) / 18446744073709551616, (a * b + c + d) % 18446744073709551616) := by
  have ha' := wd_iff.1 ha
  have hb' := wd_iff.1 hb
  have hc' := wd_iff.1 hc
  have hd' := wd_iff.1 hd
  have p0 : 0 ≤ a * b := Int.mul_nonneg ha'.1 hb'.1
  have p1 : a * b ≤ 340282366920938463426481119284349108225 := Int.le_trans (Int.mul_le_mul (show a ≤ 18446744073709551615 by omega) (show b ≤ 18446744073709551615 by omega) hb'.1 (by decide)) (by decide)
  intro n
  induction n with
  | zero =>
    intro _ hi lo h h0 h1 h2
    rw [Int.pow_zero, Int.ediv_one] at h
    refine Ev.step (fun k => by rw [sconceref01_Mul.l0]) ?_
    refine ev_neg (by omega) ?_
    have hlo : wd lo = true := wd_iff.2 ⟨h0, h1⟩
    refine ev_bind0 (sp_ref_Add hlo hc (by decide)) ?_
    refine ev_bind0 (sp_ref_Add (wd_iff.2 ⟨by omega, by omega⟩) hd (by decide)) ?_
    refine ev_const ?_
    simp only [wU]
    generalize a * b = P at *
    congr 2 <;> omega
  | succ n ih =>
    intro hn hi lo h h0 h1 h2
    have e1 : ((n + 1 : Nat) : Int) - 1 = n := by omega
    rw [e1]
    have e2 : IntKind.u64.wrap (n : Int) = n := by rw [wU]; omega
    have e3 : wrap64 ((n : Int) - 1) = n - 1 := w64 (by omega) (by omega)
    have e4 : shr .u64 b (n : Int) = b / 2 ^ n := by
      unfold shr; rw [Int.toNat_natCast, Nat.min_eq_left (by simp [IntKind.bits]; omega)]
    have hq0 : 0 ≤ b / 2 ^ n := Int.ediv_nonneg hb'.1 (Int.pow_nonneg (by decide))
    have hq1 : b / 2 ^ n < 18446744073709551616 := Int.lt_of_le_of_lt (Int.ediv_le_self _ hb'.1) hb'.2
    have ht := two_mul_div b n
    have hle : a * (b / 2 ^ n) ≤ a * b := Int.mul_le_mul_of_nonneg_left (Int.ediv_le_self _ hb'.1) ha'.1
    have hE : a * (b / 2 ^ n) = 2 * (a * (b / 2 ^ (n + 1))) + a * (b / 2 ^ n % 2) := by
      have : a * (b / 2 ^ n) = a * (2 * (b / 2 ^ (n + 1)) + b / 2 ^ n % 2) := by rw [← ht]
      rw [this, Int.mul_add, Int.mul_left_comm]
    rw [← h] at hE
    have hbit : b / 2 ^ n % 2 = 0 ∨ b / 2 ^ n % 2 = 1 := by omega
    have hhi : hi < 9223372036854775808 := by
      have : 0 ≤ a * (b / 2 ^ n % 2) := by rcases hbit with e | e <;> rw [e] <;> omega
      omega
    have hor : Go.bits .or .u64 (IntKind.u64.wrap (hi * 2)) (lo / 9223372036854775808) = hi * 2 + lo / 9223372036854775808 := by
      have e : IntKind.u64.wrap (hi * 2) = hi * 2 := by rw [wU]; omega
      rw [e]; exact b_or_add 1 (by omega) (by omega) (by omega) (by omega) (by omega) (by omega)
    refine Ev.step (fun k => by rw [sconceref01_Mul.l0, e2, e3, e4, b_and1 hq0 hq1, hor]) ?_
    refine ev_pos (by omega) ?_
    refine ev_pos (by omega) ?_
    rcases hbit with hz | hz
    · refine ev_neg (by omega) ?_
      rw [hz, Int.mul_zero] at hE
      refine ih (by omega) _ _ ?_ ?_ ?_ ?_ <;> (try simp only [wU]) <;> omega
    · refine ev_pos (by omega) ?_
      rw [hz, Int.mul_one] at hE
      refine ev_bind0 (sp_ref_Add (wd_iff.2 ?_) ha (by decide)) ?_
      · rw [wU]; omega
      simp only [wU]
      refine ih (by omega) _ _ ?_ ?_ ?_ ?_ <;> omega
theorem sp_ref_Mul {a b c d : Int} (ha : wd a = true) (hb : wd b = true) (hc : wd c = true) (hd : wd d = true) : Ev (fun k => sconceref01_Mul.f k a b c d) ((a * b + c + d) / 18446744073709551616, (a * b + c + d) % 18446744073709551616) := by
  have h := ref_Mul_loop ha hb hc hd 64 (by omega) 0 0 (by
    have := wd_iff.1 hb
    rw [show b / 2 ^ 64 = 0 from Int.ediv_eq_zero_of_lt this.1 this.2]; simp) (by omega) (by omega) (by omega)
  exact h
end Go.Proofs.Ytjbpeomcfcdklaa.X
