-- Written by a program of this session (wip/tools/rp.py) out of the translation and the hand texts. Lean checks it.
import Derived.Test.YtjbpeomcfcdklaaX0
namespace Go.Proofs.Ytjbpeomcfcdklaa.X
open Go.RowKit Go.Proofs.YtjbpeomcfcdklaaW.PrintWords Go.Proofs.YtjbpeomcfcdklaaW.PrintLast Go.Proofs.YtjbpeomcfcdklaaW.PrintMore
attribute [local go_sem] max2_int min2_int max_two min_two max_three min_three max_four min_four   -- for this text's walks alone
set_option linter.unusedVariables false
set_option linter.unusedSimpArgs false

/-! ### bits_Mul64: function 61 -/
def bits_Mul64.f (a0 : Int) (a1 : Int) : Option (Int × Int) := some (IntKind.u64.wrap ((IntKind.u64.wrap ((IntKind.u64.wrap ((a0 / 4294967296) * (a1 / 4294967296))) + ((IntKind.u64.wrap ((IntKind.u64.wrap ((a0 / 4294967296) * (Go.bits .and .u64 a1 4294967295))) + ((IntKind.u64.wrap ((Go.bits .and .u64 a0 4294967295) * (Go.bits .and .u64 a1 4294967295))) / 4294967296))) / 4294967296))) + ((IntKind.u64.wrap ((Go.bits .and .u64 (IntKind.u64.wrap ((IntKind.u64.wrap ((a0 / 4294967296) * (Go.bits .and .u64 a1 4294967295))) + ((IntKind.u64.wrap ((Go.bits .and .u64 a0 4294967295) * (Go.bits .and .u64 a1 4294967295))) / 4294967296))) 4294967295) + (IntKind.u64.wrap ((Go.bits .and .u64 a0 4294967295) * (a1 / 4294967296))))) / 4294967296)), IntKind.u64.wrap (a0 * a1))
set_option maxHeartbeats 8000000 in
set_option maxRecDepth 100000 in
theorem bits_Mul64.calls (a0 : Int) (a1 : Int) (r1 : Int) (r2 : Int) (w : World) (h : bits_Mul64.f a0 a1 = some (r1, r2)) :
    Calls Try.prog 61 #[.int .u64 a0, .int .u64 a1] w fun e w' => e = .returned (.tuple #[.int .u64 r1, .int .u64 r2]) ∧ Drawn0 w w' := by
  have H : (some (IntKind.u64.wrap ((IntKind.u64.wrap ((IntKind.u64.wrap ((a0 / 4294967296) * (a1 / 4294967296))) + ((IntKind.u64.wrap ((IntKind.u64.wrap ((a0 / 4294967296) * (Go.bits .and .u64 a1 4294967295))) + ((IntKind.u64.wrap ((Go.bits .and .u64 a0 4294967295) * (Go.bits .and .u64 a1 4294967295))) / 4294967296))) / 4294967296))) + ((IntKind.u64.wrap ((Go.bits .and .u64 (IntKind.u64.wrap ((IntKind.u64.wrap ((a0 / 4294967296) * (Go.bits .and .u64 a1 4294967295))) + ((IntKind.u64.wrap ((Go.bits .and .u64 a0 4294967295) * (Go.bits .and .u64 a1 4294967295))) / 4294967296))) 4294967295) + (IntKind.u64.wrap ((Go.bits .and .u64 a0 4294967295) * (a1 / 4294967296))))) / 4294967296)), IntKind.u64.wrap (a0 * a1))) = some (r1, r2) := h
  clear h
  simp only [Option.some.injEq, Prod.mk.injEq] at H
  obtain ⟨rfl, rfl⟩ := H
  go_enter Try.func61, Try.ntmps61
  go_wp2
  go_ret2
  exact ⟨by first | rfl | (simp; done) | (simp [*]; done), by repeat (first | exact Drawn0.refl _ | apply Drawn0.step)⟩

/-! ### bits_Add64: function 62 -/
theorem w_add64 (x y c : Int) (hx : 0 ≤ x) (hy : 0 ≤ y) (hc0 : 0 ≤ c) (hc : c ≤ 1) (w : World) : (callFunc 62 #[.int .u64 x, .int .u64 y, .int .u64 c]).run Try.prog w =
    .ok (.value (.tuple #[.int .u64 ((x + y + c) % 18446744073709551616), .int .u64 ((x + y + c) / 18446744073709551616)])) w := by
  obtain ⟨x, rfl⟩ := Int.eq_ofNat_of_zero_le hx
  obtain ⟨y, rfl⟩ := Int.eq_ofNat_of_zero_le hy
  obtain ⟨c, rfl⟩ := Int.eq_ofNat_of_zero_le hc0
  rw [run_callFunc_extern Try.func62 (by kernel_rfl) (by kernel_rfl) (by kernel_rfl) (e := add64Entry) (by kernel_rfl), run_add64 x y c (by omega) (by omega) (by omega) (by omega)]
  simp only [Result.andThen]
theorem w_add64_0 (x y : Int) (hx : 0 ≤ x) (hy : 0 ≤ y) (w : World) : (callFunc 62 #[.int .u64 x, .int .u64 y, .int .u64 0]).run Try.prog w =
    .ok (.value (.tuple #[.int .u64 ((x + y) % 18446744073709551616), .int .u64 ((x + y) / 18446744073709551616)])) w := by
  simpa using w_add64 x y 0 hx hy (Int.le_refl 0) (by decide) w

/-! ### word_Mul: function 18 -/
def word_Mul.f (a0 a1 a2 a3 : Int) : Option (Int × Int) :=
  if ((0 ≤ a0 ∧ a0 < 18446744073709551616) ∧ (0 ≤ a1 ∧ a1 < 18446744073709551616)) ∧ ((0 ≤ a2 ∧ a2 < 18446744073709551616) ∧ (0 ≤ a3 ∧ a3 < 18446744073709551616)) then some ((a0 * a1 + a2 + a3) / 18446744073709551616, (a0 * a1 + a2 + a3) % 18446744073709551616) else none
theorem mul64_val (a b : Int) (h0 : 0 ≤ a) (h1 : a < 18446744073709551616) (h2 : 0 ≤ b) (h3 : b < 18446744073709551616) :
    bits_Mul64.f a b = some (a * b / 18446744073709551616, a * b % 18446744073709551616) := by
  unfold bits_Mul64.f
  have m32 : ∀ x : Int, 0 ≤ x → x < 18446744073709551616 → Go.bits .and .u64 x 4294967295 = x % 4294967296 := by
    intro x hx0 hx1
    have h := u64_and x 4294967295 hx0 hx1 (by decide) (by decide)
    rw [h, show (4294967295 : Int).toNat = 2 ^ 32 - 1 from rfl, Nat.and_two_pow_sub_one_eq_mod]
    omega
  simp only [IntKind.wrap_u64]
  rw [m32 a h0 h1, m32 b h2 h3]
  have ha : a = a / 4294967296 * 4294967296 + a % 4294967296 := by omega
  have hb : b = b / 4294967296 * 4294967296 + b % 4294967296 := by omega
  have u0 : 0 ≤ a / 4294967296 := by omega
  have u1 : a / 4294967296 ≤ 4294967295 := by omega
  have u2 : 0 ≤ a % 4294967296 := by omega
  have u3 : a % 4294967296 ≤ 4294967295 := by omega
  have v0 : 0 ≤ b / 4294967296 := by omega
  have v1 : b / 4294967296 ≤ 4294967295 := by omega
  have v2 : 0 ≤ b % 4294967296 := by omega
  have v3 : b % 4294967296 ≤ 4294967295 := by omega
  generalize a / 4294967296 = x1 at *
  generalize a % 4294967296 = x0 at *
  generalize b / 4294967296 = y1 at *
  generalize b % 4294967296 = y0 at *
  have e : a * b = (x1 * y1) * 18446744073709551616 + (x1 * y0) * 4294967296 + (x0 * y1) * 4294967296 + x0 * y0 := by
    rw [ha, hb]; simp only [Int.add_mul, Int.mul_add]
    have q1 : x1 * 4294967296 * (y1 * 4294967296) = (x1 * y1) * 18446744073709551616 := by
      rw [Int.mul_assoc, Int.mul_left_comm 4294967296, ← Int.mul_assoc]; rfl
    have q2 : x1 * 4294967296 * y0 = x1 * y0 * 4294967296 := by rw [Int.mul_assoc, Int.mul_comm 4294967296, ← Int.mul_assoc]
    have q3 : x0 * (y1 * 4294967296) = x0 * y1 * 4294967296 := by rw [← Int.mul_assoc]
    omega
  have bd : ∀ p q : Int, 0 ≤ p → p ≤ 4294967295 → 0 ≤ q → q ≤ 4294967295 → 0 ≤ p * q ∧ p * q ≤ 18446744065119617025 := by
    intro p q hp hp' hq hq'
    exact ⟨Int.mul_nonneg hp hq, Int.le_trans (Int.mul_le_mul hp' hq' hq (by decide)) (by decide)⟩
  obtain ⟨s0, s1⟩ := bd x1 y1 u0 u1 v0 v1
  obtain ⟨s2, s3⟩ := bd x1 y0 u0 u1 v2 v3
  obtain ⟨s4, s5⟩ := bd x0 y1 u2 u3 v0 v1
  obtain ⟨s6, s7⟩ := bd x0 y0 u2 u3 v2 v3
  rw [e]
  clear e ha hb bd
  generalize x1 * y1 = p11 at *
  generalize x1 * y0 = p10 at *
  generalize x0 * y1 = p01 at *
  generalize x0 * y0 = p00 at *
  have k1 : 0 ≤ p10 + p00 / 4294967296 := by omega
  have k2 : p10 + p00 / 4294967296 < 18446744073709551616 := by omega
  have n1 : (p00 % 18446744073709551616) = p00 := by omega
  have n2 : (p10 % 18446744073709551616) = p10 := by omega
  have n3 : (p01 % 18446744073709551616) = p01 := by omega
  have n4 : (p11 % 18446744073709551616) = p11 := by omega
  simp only [n1, n2, n3, n4]
  rw [Int.emod_eq_of_lt k1 k2, m32 _ k1 k2]
  congr 2 <;> omega
theorem word_Mul.calls (a0 a1 a2 a3 r1 r2 : Int) (w : World) (h : word_Mul.f a0 a1 a2 a3 = some (r1, r2)) :
    Calls Try.prog 18 #[.int .u64 a0, .int .u64 a1, .int .u64 a2, .int .u64 a3] w fun e w' => e = .returned (.tuple #[.int .u64 r1, .int .u64 r2]) ∧ Drawn0 w w' := by
  unfold word_Mul.f at h
  split at h
  · rename_i hc
    obtain ⟨⟨⟨h0, h0'⟩, h1, h1'⟩, ⟨h2, h2'⟩, h3, h3'⟩ := hc
    simp only [Option.some.injEq, Prod.mk.injEq] at h
    have hm := mul64_val a0 a1 h0 h0' h1 h1'
    have p0 : 0 ≤ a0 * a1 := Int.mul_nonneg h0 h1
    have p1 : a0 * a1 ≤ 340282366920938463426481119284349108225 := Int.le_trans (Int.mul_le_mul (show a0 ≤ 18446744073709551615 by omega) (show a1 ≤ 18446744073709551615 by omega) h1 (by decide)) (by decide)
    generalize a0 * a1 = P at *
    have q0 : 0 ≤ P / 18446744073709551616 := by omega
    have q1 : 0 ≤ P % 18446744073709551616 := by omega
    have q2 : P % 18446744073709551616 < 18446744073709551616 := by omega
    have q3 : P / 18446744073709551616 ≤ 18446744073709551614 := by omega
    have q4 : P = P / 18446744073709551616 * 18446744073709551616 + P % 18446744073709551616 := by omega
    generalize P / 18446744073709551616 = hi at *
    generalize P % 18446744073709551616 = lo at *
    have s0 : 0 ≤ (lo + a2) % 18446744073709551616 := by omega
    obtain ⟨e1, e2⟩ := h
    have er1 : (hi + (lo + a2) / 18446744073709551616 + ((lo + a2) % 18446744073709551616 + a3) / 18446744073709551616) % 18446744073709551616 = r1 := by omega
    have er2 : (lo + a2 + a3) % 18446744073709551616 = r2 := by omega
    have E1 := Lib.hid er1
    have E2 := Lib.hid er2
    clear e1 e2 er1 er2
    have HM := Lib.hid hm
    have H4 := Lib.hid q4
    clear hm q4
    go_enter Try.func18, Try.ntmps18
    go_wp2_with (first | (go_at_call 61; refine (bits_Mul64.calls a0 a1 hi lo _ HM.out).mono ?_; rintro e w' ⟨rfl, ⟨n, rfl⟩⟩) | simp only [w_add64_0 lo a2 q1 h2] | simp only [w_add64_0 _ a3 s0 h3])
    go_ret2
    exact ⟨ret_two E1.out E2.out, by first | exact Drawn0.refl _ | (exact (Drawn0.refl _).step _)⟩
  · exact absurd h (by simp)

/-! ### word_Mask: function 22 -/
def word_Mask.f (a0 : Int) : Option (Int) := some (IntKind.u64.wrap (-(Go.bits .and .u64 a0 1)))
set_option maxHeartbeats 8000000 in
set_option maxRecDepth 100000 in
theorem word_Mask.calls (a0 : Int) (r : Int) (w : World) (h : word_Mask.f a0 = some r) :
    Calls Try.prog 22 #[.int .u64 a0] w fun e w' => e = .returned (.int .u64 r) ∧ Drawn0 w w' := by
  have H : (some (IntKind.u64.wrap (-(Go.bits .and .u64 a0 1)))) = some r := h
  clear h
  obtain rfl := Option.some.inj H
  go_enter Try.func22, Try.ntmps22
  go_wp2
  go_ret
  exact ⟨by first | rfl | (simp; done) | (simp [*]; done), by repeat (first | exact Drawn0.refl _ | apply Drawn0.step)⟩

/-! ### word_Inverse: function 20 -/
def word_Inverse.l0 : Nat → Int → Int → Int → Option (Int)
  | 0, _, _, _ => none
  | k + 1, x0, x3, x7 => if x7 < 4 then (word_Inverse.l0 k x0 (IntKind.u64.wrap (x3 * (IntKind.u64.wrap (2 - (IntKind.u64.wrap (x0 * x3)))))) (wrap64 (x7 + 1))) else ((word_Mask.f x0).bind fun t101 => (some (Go.bits .and .u64 x3 t101)))
def word_Inverse.f (k : Nat) (a0 : Int) : Option (Int) := word_Inverse.l0 k a0 (Go.bits .xor .u64 (IntKind.u64.wrap (a0 * 3)) 2) 0
theorem word_Inverse.mono_l : ∀ k, (∀ y0 y1 y2, LeO (word_Inverse.l0 k y0 y1 y2) (word_Inverse.l0 (k + 1) y0 y1 y2))
  | 0 => fun _ _ _ r h => by simp [word_Inverse.l0] at h
  | k + 1 => by
    have ih0 := word_Inverse.mono_l k
    · intro y0 y1 y2
      unfold word_Inverse.l0
      repeat' first
      | (with_reducible exact ih0 _ _ _)
      | (with_reducible exact LeO.refl _)
      | (with_reducible exact LeO.none _)
      | (with_reducible refine LeO.ite ?_ ?_)
      | (with_reducible refine LeO.bind ?_ (fun _ => ?_))
      | exact ih0 _ _ _
      | exact LeO.none _
      | refine LeO.ite ?_ ?_
      | refine LeO.bind ?_ (fun _ => ?_)
theorem word_Inverse.mono : ∀ a0 k, LeO (word_Inverse.f k a0) (word_Inverse.f (k + 1) a0) := by
  intro a0 k
  have ih0 := word_Inverse.mono_l k
  unfold word_Inverse.f
  repeat' first
      | (with_reducible exact ih0 _ _ _)
      | (with_reducible exact LeO.refl _)
      | (with_reducible exact LeO.none _)
      | (with_reducible refine LeO.ite ?_ ?_)
      | (with_reducible refine LeO.bind ?_ (fun _ => ?_))
      | exact ih0 _ _ _
      | exact LeO.none _
      | refine LeO.ite ?_ ?_
      | refine LeO.bind ?_ (fun _ => ?_)
set_option maxHeartbeats 8000000 in
set_option maxRecDepth 100000 in
theorem word_Inverse.calls (k : Nat) (a0 : Int) (r : Int) (w : World) (h : word_Inverse.f k a0 = some r) :
    Calls Try.prog 20 #[.int .u64 a0] w fun e w' => e = .returned (.int .u64 r) ∧ Drawn0 w w' := by
  have H : (word_Inverse.l0 k a0 (Go.bits .xor .u64 (IntKind.u64.wrap (a0 * 3)) 2) 0) = some r := h
  clear h
  have H' := Aside0.mk H
  clear H
  go_enter Try.func20, Try.ntmps20
  go_wp2
  go_loopg [3, 7] k (fun kq v3 v7 w' => ∃ (x3_1 : Int) (x7_1 : Int), v3 = .int .u64 x3_1 ∧ v7 = .int .i64 x7_1 ∧ Aside0 (word_Inverse.l0 kq a0 x3_1 x7_1 = some r) ∧ Aside0 (kq ≤ k) ∧ Drawn0 w w')
  case atStart => exact ⟨(Go.bits .xor .u64 (IntKind.u64.wrap (a0 * 3)) 2), (0), (by first | rfl | (simp; done) | (simp [*]; done)), (by first | rfl | (simp; done) | (simp [*]; done)), H', ⟨Nat.le_refl _⟩, by repeat (first | exact Drawn0.refl _ | apply Drawn0.step)⟩
  case round =>
    clear H'
    obtain ⟨x3_1, x7_1, rfl, rfl, HA, HK1, ⟨m1, rfl⟩⟩ := hrel
    cases gk with
    | zero => exact absurd HA.out (by simp [word_Inverse.l0])
    | succ k1 =>
      have H := HA.out
      clear HA
      simp only [word_Inverse.l0] at H
      by_cases c2 : x7_1 < 4
      · rw [if_pos c2] at H
        have c2b0 : decide (x7_1 < 4) = true := decide_eq_true c2
        clear c2
        have H' := Aside0.mk H
        clear H
        go_wp2
        go_roundg k1
        case measure => have := HK1.out; omega
        case rel => exact ⟨(IntKind.u64.wrap (x3_1 * (IntKind.u64.wrap (2 - (IntKind.u64.wrap (a0 * x3_1)))))), (wrap64 (x7_1 + 1)), (by first | rfl | (simp; done) | (simp [*]; done)), (by first | rfl | (simp; done) | (simp [*]; done)), H', ⟨by have := HK1.out; omega⟩, by repeat (first | exact Drawn0.refl _ | apply Drawn0.step)⟩
      · rw [if_neg c2] at H
        have c2b0 : decide (x7_1 < 4) = false := decide_eq_false c2
        clear c2
        replace H := Option.bind_eq_some_iff.mp H
        obtain ⟨t101, A30, H⟩ := H
        replace H : (some (Go.bits .and .u64 x3_1 t101)) = some r := H
        have A3 := Aside0.mk A30
        clear A30
        obtain rfl := Option.some.inj H
        go_wp2_with (first | ((with_reducible refine gate_callee (f := 22) rfl ?_); refine goesL_ (some 18) rfl rfl Try.func22 (by kernel_rfl) rfl #[.int .u64 a0] rfl (by (try simp only [List.map_toArray, List.map_cons, List.map_nil]); first | done | rfl | (simp only [List.length_drop, List.length_take]; rfl)) ?_; (with_reducible refine (word_Mask.calls a0 t101 _ A3.out).mono ?_); rintro e w' ⟨rfl, ⟨nd, rfl⟩⟩; refine ⟨_, rfl, ?_⟩))
        go_ret
        exact ⟨by first | rfl | (simp; done) | (simp [*]; done), by repeat (first | exact Drawn0.refl _ | apply Drawn0.step)⟩

end Go.Proofs.Ytjbpeomcfcdklaa.X
