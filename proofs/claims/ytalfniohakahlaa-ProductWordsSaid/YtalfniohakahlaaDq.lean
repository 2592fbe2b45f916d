/- Division bit by bit: plain numbers. -/
import Derived.Test.YtalfniohakahlaaX0
import Derived.Test.YtalfniohakahlaaX5
import Derived.Test.YtalfniohakahlaaBt
import Derived.Test.YtalfniohakahlaaNu
import Derived.Test.YtalfniohakahlaaSp4
namespace Go.Proofs.Ytalfniohakahlaa.X
open Go.RowKit Go.Proofs.YtalfniohakahlaaW.PrintWords Go.Proofs.YtalfniohakahlaaW.PrintLast Go.Proofs.YtalfniohakahlaaW.PrintMore Go.Proofs.Ytalfniohakahlaa.Ma
set_option linter.unusedVariables false
theorem sp_limbs_Left {c : Int} {a : List Int} (hc : wd c = true) (ha : Wd a) (hn : a.length ≤ 35184372088832) {b : Nat} (hb : c % 2 = (b : Int)) :
    limbs_Left.f a c = some (wds a.length (2 * nW a + b), (((2 * nW a + b) / 18446744073709551616 ^ a.length : Nat) : Int)) := by
  unfold limbs_Left.f
  rw [if_pos ⟨⟨hc, hn⟩, wd_all.2 ha⟩, hb]
  have hbb : (b : Int) = 0 ∨ (b : Int) = 1 := by omega
  have hs := sumL (c := (b : Int)) (a := a) a.length
  rw [vs_nW ha (Nat.le_refl _)] at hs
  have hcy := cyL_bit (c := (b : Int)) hbb ha a.length
  have hdg : ∀ i, i < a.length → 0 ≤ dgL (b : Int) a i ∧ dgL (b : Int) a i < 18446744073709551616 := fun i _ => by
    have h1 := cyL_bit (c := (b : Int)) hbb ha i
    unfold dgL
    omega
  generalize a.length = n at *
  have h0 := vs_nonneg (B := 18446744073709551616) (by decide) n (fun i hi => (hdg i hi).1)
  have h1 := vs_lt (B := 18446744073709551616) (by decide) n hdg
  obtain ⟨v, hv⟩ := Int.eq_ofNat_of_zero_le h0
  obtain ⟨q, hq⟩ := Int.eq_ofNat_of_zero_le hcy.1
  rw [mk_wds (x := v) hdg hv, hq]
  rw [hv] at hs h1
  rw [hq, ← cast_pow] at hs
  rw [← cast_pow] at h1
  have hs' : v + 18446744073709551616 ^ n * q = 2 * nW a + b := by rw [Nat.mul_comm _ q]; exact_mod_cast hs
  have h1' : v < 18446744073709551616 ^ n := by exact_mod_cast h1
  rw [← hs', Nat.add_mul_div_left _ _ (Nat.pow_pos (by decide)), Nat.div_eq_of_lt h1', Nat.zero_add]
  congr 2
  show dgs _ _ _ = dgs _ _ _
  rw [← dgs_mod n (v + 18446744073709551616 ^ n * q), Nat.add_mul_mod_self_left, dgs_mod]
/-- What a step leaves of the rest. -/
theorem dq_rest (A M k : Nat) (hM : 0 < M) : (2 * (A / 2 ^ (k + 1) % M) + A / 2 ^ k % 2) % M = A / 2 ^ k % M := by
  have e : A / 2 ^ k = 2 * (A / 2 ^ (k + 1)) + A / 2 ^ k % 2 := by rw [Nat.pow_succ, ← Nat.div_div_eq_div_mul]; omega
  generalize A / 2 ^ k % 2 = b at *
  rw [e]
  rw [Nat.add_mod, Nat.mul_mod, Nat.mod_mod, ← Nat.mul_mod, ← Nat.add_mod]
theorem dq_quot (A M k : Nat) (hM : 0 < M) : A / 2 ^ k / M = 2 * (A / 2 ^ (k + 1) / M) + (if M ≤ 2 * (A / 2 ^ (k + 1) % M) + A / 2 ^ k % 2 then 1 else 0) := by
  have e : A / 2 ^ k = 2 * (A / 2 ^ (k + 1)) + A / 2 ^ k % 2 := by rw [Nat.pow_succ, ← Nat.div_div_eq_div_mul]; omega
  have hb : A / 2 ^ k % 2 < 2 := Nat.mod_lt _ (by decide)
  generalize A / 2 ^ k % 2 = b at *
  rw [e]
  generalize A / 2 ^ (k + 1) = X
  have h1 := Nat.div_add_mod X M
  have h2 := Nat.mod_lt X hM
  generalize X / M = q at *
  generalize X % M = r at *
  have e2 : 2 * X + b = 2 * r + b + M * (2 * q) := by rw [← h1, Nat.mul_add, Nat.mul_left_comm]; omega
  rw [e2, Nat.add_mul_div_left _ _ hM]
  split
  · rename_i h
    rw [Nat.div_eq_of_lt_le (k := 1) (by omega) (by omega)]
    omega
  · rename_i h
    rw [Nat.div_eq_of_lt (by omega)]
    omega
theorem dq_lt (A M k : Nat) (hM : 0 < M) : 2 * (A / 2 ^ (k + 1) % M) + A / 2 ^ k % 2 < 2 * M := by
  have := Nat.mod_lt (A / 2 ^ (k + 1)) hM
  have : A / 2 ^ k % 2 < 2 := Nat.mod_lt _ (by decide)
  omega
/-- A bit more of the quotient. -/
theorem dq_set {n Q k : Nat} (hk : k < 64 * n) (hQ : Q % 2 ^ (k + 1) = 0) (hQl : Q < 18446744073709551616 ^ n) {f : Nat} (hf : f < 2) :
    (wds n Q).set (k / 64) (Go.bits .or .u64 (at0 (wds n Q) (k / 64)) (IntKind.u64.wrap ((f : Int) * 2 ^ (k % 64)))) = wds n (Q + f * 2 ^ k) := by
  have hk2 : k / 64 < n := by omega
  have hlen : (wds n Q).length = n := dgs_length _ _ _
  have hat : at0 (wds n Q) (k / 64) = ((Q / 18446744073709551616 ^ (k / 64) % 18446744073709551616 : Nat) : Int) := at0_dgs Q hk2
  have eW : 18446744073709551616 ^ (k / 64) = 2 ^ (64 * (k / 64)) := by rw [Nat.pow_mul]
  have hkk : 64 * (k / 64) + k % 64 = k := Nat.div_add_mod k 64
  have hj : k % 64 < 64 := Nat.mod_lt _ (by decide)
  -- the word's low bits are noughts
  have hz : Q / 2 ^ (64 * (k / 64)) % 18446744073709551616 % 2 ^ (k % 64 + 1) = 0 := by
    rw [show 18446744073709551616 = 2 ^ (k % 64 + 1) * 2 ^ (63 - k % 64) by rw [← Nat.pow_add, show k % 64 + 1 + (63 - k % 64) = 64 by omega], Nat.mod_mul_right_mod]
    have h5 := Nat.mod_mul_right_div_self Q (2 ^ (64 * (k / 64))) (2 ^ (k % 64 + 1))
    rw [← Nat.pow_add, show 64 * (k / 64) + (k % 64 + 1) = k + 1 by omega, hQ, Nat.zero_div] at h5
    exact h5.symm
  generalize hw0 : Q / 2 ^ (64 * (k / 64)) % 18446744073709551616 = w0 at *
  have hw0l : w0 < 18446744073709551616 := by rw [← hw0]; exact Nat.mod_lt _ (by decide)
  have hp : 2 ^ (k % 64) ≤ 2 ^ 63 := Nat.pow_le_pow_right (by decide) (by omega)
  have hfl : f * 2 ^ (k % 64) < 18446744073709551616 := by
    have : f * 2 ^ (k % 64) ≤ 1 * 2 ^ (k % 64) := Nat.mul_le_mul_right _ (by omega)
    omega
  have hfw : IntKind.u64.wrap ((f : Int) * 2 ^ (k % 64)) = ((f * 2 ^ (k % 64) : Nat) : Int) := by
    rw [wU]
    have e : ((f : Int) * 2 ^ (k % 64)) = ((f * 2 ^ (k % 64) : Nat) : Int) := by simp
    rw [e]; omega
  have hflt : f * 2 ^ (k % 64) < 2 ^ (k % 64 + 1) := by
    rw [Nat.pow_succ, Nat.mul_comm (2 ^ (k % 64))]
    exact Nat.mul_lt_mul_of_pos_right hf (Nat.pow_pos (by decide))
  have hor : Go.bits .or .u64 (w0 : Int) ((f * 2 ^ (k % 64) : Nat) : Int) = ((w0 + f * 2 ^ (k % 64) : Nat) : Int) := by
    rw [b_or_add (k % 64 + 1) (by omega) (by omega) (by omega) (by omega) (by exact_mod_cast hz) (by exact_mod_cast hflt)]; omega
  have hsum : w0 + f * 2 ^ (k % 64) < 18446744073709551616 := by
    have h6 : 2 ^ (k % 64 + 1) ∣ w0 := Nat.dvd_of_mod_eq_zero hz
    have h7 : (18446744073709551616 : Nat) = 2 ^ (k % 64 + 1) * 2 ^ (63 - k % 64) := by rw [← Nat.pow_add, show k % 64 + 1 + (63 - k % 64) = 64 by omega]
    obtain ⟨c, hc⟩ := h6
    rw [hc, h7] at hw0l ⊢
    have h8 : c < 2 ^ (63 - k % 64) := Nat.lt_of_mul_lt_mul_left hw0l
    calc 2 ^ (k % 64 + 1) * c + f * 2 ^ (k % 64) < 2 ^ (k % 64 + 1) * c + 2 ^ (k % 64 + 1) := by omega
      _ = 2 ^ (k % 64 + 1) * (c + 1) := by rw [Nat.mul_add, Nat.mul_one]
      _ ≤ 2 ^ (k % 64 + 1) * 2 ^ (63 - k % 64) := Nat.mul_le_mul_left _ h8
  rw [hat, eW, hw0, hfw, hor]
  have hdg : dg ((18446744073709551616 : Nat) : Int) ((wds n Q).set (k / 64) ((w0 + f * 2 ^ (k % 64) : Nat) : Int)) := dg_set (wds_Wd n Q) ⟨by omega, by omega⟩ _
  refine dgs_eq hdg (by rw [List.length_set, hlen]) ?_
  congr 1
  have h9 := num_set (B := 18446744073709551616) (l := wds n Q) (i := k / 64) ((w0 + f * 2 ^ (k % 64) : Nat) : Int) (by rw [hlen]; exact hk2)
  rw [hat, eW, hw0, Int.toNat_natCast, Int.toNat_natCast, num_dgs, Nat.mod_eq_of_lt hQl, Nat.add_mul, Nat.mul_assoc f, ← Nat.pow_add, Nat.add_comm (k % 64), hkk] at h9
  omega
theorem dq_bit {l : List Int} (h : Wd l) (k : Nat) : (at0 l (k / 64) / 2 ^ (k % 64)) % 2 = ((nW l / 2 ^ k % 2 : Nat) : Int) ∧ wd (at0 l (k / 64) / 2 ^ (k % 64)) = true := by
  have e1 := at0_num (B := 18446744073709551616) (by decide) h (k / 64)
  have e2 : 18446744073709551616 ^ (k / 64) = 2 ^ (64 * (k / 64)) := by rw [Nat.pow_mul]
  have hkk : 64 * (k / 64) + k % 64 = k := Nat.div_add_mod k 64
  have hj : k % 64 < 64 := Nat.mod_lt _ (by decide)
  rw [e1, e2]
  have e3 : (((nW l / 2 ^ (64 * (k / 64)) % 18446744073709551616 : Nat) : Int) / 2 ^ (k % 64)) = ((nW l / 2 ^ (64 * (k / 64)) % 18446744073709551616 / 2 ^ (k % 64) : Nat) : Int) := by simp
  rw [show num 18446744073709551616 l = nW l from rfl, e3]
  refine ⟨?_, ?_⟩
  · have e4 : nW l / 2 ^ (64 * (k / 64)) % 18446744073709551616 / 2 ^ (k % 64) % 2 = nW l / 2 ^ k % 2 := by
      rw [show 18446744073709551616 = 2 ^ (k % 64) * 2 ^ (64 - k % 64) by rw [← Nat.pow_add, show k % 64 + (64 - k % 64) = 64 by omega], Nat.mod_mul_right_div_self, Nat.div_div_eq_div_mul, ← Nat.pow_add, hkk,
        show 64 - k % 64 = 63 - k % 64 + 1 by omega, Nat.pow_succ, Nat.mod_mul_left_mod]
    rw [← e4]; omega
  · rw [wd_iff]
    have h5 := Nat.mod_lt (nW l / 2 ^ (64 * (k / 64))) (show 0 < 18446744073709551616 by decide)
    have h6 := Nat.div_le_self (nW l / 2 ^ (64 * (k / 64)) % 18446744073709551616) (2 ^ (k % 64))
    generalize nW l / 2 ^ (64 * (k / 64)) % 18446744073709551616 / 2 ^ (k % 64) = y at *
    generalize nW l / 2 ^ (64 * (k / 64)) % 18446744073709551616 = z at *
    exact ⟨by omega, by omega⟩
/-- One step, as numbers: the rest is doubled, and less the divisor, if it can be. -/
theorem dq_round {T : Nat} {l2 : List Int} (h2 : Wd l2) (hn : l2.length ≤ 300) (hT : T < 2 * nW l2) : ∃ (less : List Int) (low : Int) (f : Nat), limbs_Sub.f (wds l2.length T) l2 = some (less, low) ∧ f < 2 ∧ f = (if nW l2 ≤ T then 1 else 0) ∧
    Go.bits .or .u64 ((T / 18446744073709551616 ^ l2.length : Nat) : Int) (Go.bits .xor .u64 1 low) = (f : Int) ∧ limbs_Select.f (f : Int) less (wds l2.length T) = some (wds l2.length (T % nW l2)) ∧ Go.bits .and .u64 (f : Int) 1 = (f : Int) := by
  have hM := nW_lt h2
  have hlT : (wds l2.length T).length = l2.length := dgs_length _ _ _
  have hWT : Wd (wds l2.length T) := wds_Wd _ _
  have hnT : nW (wds l2.length T) = T % 18446744073709551616 ^ l2.length := num_dgs _ _
  have hs := sp_limbs_Sub hWT h2 (by rw [hlT, Nat.max_self]; omega)
  have hmx : max (wds l2.length T).length l2.length = l2.length := by rw [hlT, Nat.max_self]
  rw [hmx, hnT] at hs
  generalize hP : 18446744073709551616 ^ l2.length = P at *
  generalize hMm : nW l2 = M at *
  have hP0 : 0 < P := by omega
  have sel : ∀ (f : Nat) (x : Nat), f < 2 → limbs_Select.f (f : Int) (wds l2.length x) (wds l2.length T) = some (if f = 1 then wds l2.length x else wds l2.length T) := by
    intro f x hf
    rw [sp_limbs_Select (by rw [wd_iff]; omega) (wds_Wd _ _) (wds_Wd _ _) (by rw [dgs_length, dgs_length, Nat.max_self]; omega)]
    rw [dgs_length, dgs_length, Nat.max_self]
    congr 1
    have e1 : ∀ y : Nat, wds l2.length (nW (wds l2.length y)) = wds l2.length y := fun y => by
      show dgs _ _ _ = dgs _ _ _
      rw [show nW (wds l2.length y) = y % 18446744073709551616 ^ l2.length from num_dgs _ _, dgs_mod]
    rcases (show f = 0 ∨ f = 1 by omega) with rfl | rfl
    · rw [if_neg (by omega), if_neg (by omega), e1]
    · rw [if_pos (by omega), if_pos rfl, e1]
  rcases Nat.lt_or_ge T M with hlt | hge
  · have ht : T % P = T := Nat.mod_eq_of_lt (by omega)
    rw [ht, if_pos hlt] at hs
    refine ⟨_, _, 0, hs, by omega, by rw [if_neg (by omega)], ?_, ?_, by decide⟩
    · rw [Nat.div_eq_of_lt (show T < P by omega)]; decide
    · rw [sel 0 _ (by omega), if_neg (by omega), Nat.mod_eq_of_lt hlt]
  · have hTM : T % M = T - M := by rw [Nat.mod_eq_sub_mod hge, Nat.mod_eq_of_lt (by omega)]
    rcases Nat.lt_or_ge T P with hp | hp
    · have ht : T % P = T := Nat.mod_eq_of_lt hp
      rw [ht, if_neg (by omega)] at hs
      refine ⟨_, _, 1, hs, by omega, by rw [if_pos hge], ?_, ?_, by decide⟩
      · rw [Nat.div_eq_of_lt hp]; decide
      · rw [sel 1 _ (by omega), if_pos rfl, hTM]
    · have ht : T % P = T - P := by rw [Nat.mod_eq_sub_mod hp, Nat.mod_eq_of_lt (by omega)]
      rw [ht, if_pos (by omega)] at hs
      rw [show T - P + P - M = T - M by omega] at hs
      refine ⟨_, _, 1, hs, by omega, by rw [if_pos hge], ?_, ?_, by decide⟩
      · rw [Nat.div_eq_of_lt_le (k := 1) (by omega) (by omega)]; decide
      · rw [sel 1 _ (by omega), if_pos rfl, hTM]
end Go.Proofs.Ytalfniohakahlaa.X
