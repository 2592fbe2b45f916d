/- Texts of the walk and of the plain laws, laid together by a program: Lq. -/
import Derived.ArgAppend
import Derived.Below
import Derived.BigQuiet
import Derived.Deep.AppendLies
import Derived.Deep.CutBlock
import Derived.Deep.DeepCutAuto
import Derived.Deep.Draws
import Derived.Deep.LoopGhost
import Derived.Deep.OwnRows
import Derived.Deep.QuietTactic
import Derived.Deep.RegionHeld3
import Derived.KernelRfl
import Derived.Laws.BitsAllLaws
import Derived.Laws.BitsLemmas
import Derived.Laws.BytesArg
import Derived.Laws.CopyOwn
import Derived.Laws.Externs
import Derived.Laws.IdiomCopy
import Derived.Laws.MakeOwn
import Derived.Laws.OwnMore
import Derived.Laws.Rows
import Derived.Laws.Slices
import Derived.Lib.AppendStr
import Derived.Lib.BitFns
import Derived.Lib.ConvBytes
import Derived.Lib.Hide
import Derived.Lib.Slices
import Derived.Lib.Small
import Derived.Lib.Strings
import Derived.Lib.Walk
import Derived.Maps.AppendAt
import Derived.OrdersHeld
import Derived.OwnWalk
import Derived.RowKit
import Derived.RowKit3
import Derived.Shelf.Spec.BitsCarry
import Derived.Tactics
import Derived.Test.YtalfniohakahlaaProg
import Derived.WalkKit
import Derived.WalkSmall
import Derived.WideLaws
import Derived.Test.YtalfniohakahlaaZB0
import Derived.Test.YtalfniohakahlaaZB1
import Derived.Test.YtalfniohakahlaaZB2
import Derived.Test.YtalfniohakahlaaZB4
import Derived.Test.YtalfniohakahlaaZB6
import Derived.Test.YtalfniohakahlaaZB18
import Derived.Test.YtalfniohakahlaaZB24
namespace Go.Proofs.Ytalfniohakahlaa.X
open Go.RowKit Go.Proofs.YtalfniohakahlaaW.PrintWords Go.Proofs.YtalfniohakahlaaW.PrintLast Go.Proofs.YtalfniohakahlaaW.PrintMore Go.Proofs.Ytalfniohakahlaa.Ma
set_option linter.unusedVariables false
set_option linter.unusedSimpArgs false
def lqP (X V k : Nat) : Nat := X / 18446744073709551616 ^ (k + 1) % V * 18446744073709551616 + X / 18446744073709551616 ^ k % 18446744073709551616
def lqU (X V k : Nat) : Nat := X / 18446744073709551616 ^ k % V * 18446744073709551616 ^ k + X % 18446744073709551616 ^ k
def lqQ (X V k : Nat) : Nat := X / 18446744073709551616 ^ k / V * 18446744073709551616 ^ k
theorem lq_word (X k : Nat) : X / 18446744073709551616 ^ k = 18446744073709551616 * (X / 18446744073709551616 ^ (k + 1)) + X / 18446744073709551616 ^ k % 18446744073709551616 := by
  rw [Nat.pow_succ, ← Nat.div_div_eq_div_mul]
  exact (Nat.div_add_mod _ _).symm
theorem lq_lt {X V : Nat} (k : Nat) (hV : 0 < V) : lqP X V k < V * 18446744073709551616 := by
  unfold lqP
  have h1 : X / 18446744073709551616 ^ (k + 1) % V < V := Nat.mod_lt _ hV
  have h2 : X / 18446744073709551616 ^ k % 18446744073709551616 < 18446744073709551616 := Nat.mod_lt _ (by decide)
  have h3 : (X / 18446744073709551616 ^ (k + 1) % V + 1) * 18446744073709551616 ≤ V * 18446744073709551616 := Nat.mul_le_mul_right _ h1
  omega
theorem lq_split {X V : Nat} (k : Nat) (hV : 0 < V) : X / 18446744073709551616 ^ k = V * (18446744073709551616 * (X / 18446744073709551616 ^ (k + 1) / V)) + lqP X V k := by
  have h1 := lq_word X k
  have h2 := Nat.div_add_mod (X / 18446744073709551616 ^ (k + 1)) V
  unfold lqP
  have e : V * (18446744073709551616 * (X / 18446744073709551616 ^ (k + 1) / V)) = 18446744073709551616 * (V * (X / 18446744073709551616 ^ (k + 1) / V)) := by ac_rfl
  rw [e]
  generalize V * (X / 18446744073709551616 ^ (k + 1) / V) = a at *
  omega
theorem lq_div {X V : Nat} (k : Nat) (hV : 0 < V) : X / 18446744073709551616 ^ k / V = 18446744073709551616 * (X / 18446744073709551616 ^ (k + 1) / V) + lqP X V k / V := by
  conv => lhs; rw [lq_split k hV, Nat.add_comm, Nat.add_mul_div_left _ _ hV]
  rw [Nat.add_comm]
theorem lq_mod {X V : Nat} (k : Nat) (hV : 0 < V) : X / 18446744073709551616 ^ k % V = lqP X V k % V := by
  conv => lhs; rw [lq_split k hV, Nat.add_comm, Nat.add_mul_mod_self_left]
theorem lq_U (X V k : Nat) : lqU X V (k + 1) / 18446744073709551616 ^ k = lqP X V k := by
  unfold lqU lqP
  have hB : 0 < 18446744073709551616 ^ k := Nat.pow_pos (by decide)
  have e : X % 18446744073709551616 ^ (k + 1) = X % 18446744073709551616 ^ k + 18446744073709551616 ^ k * (X / 18446744073709551616 ^ k % 18446744073709551616) := by rw [Nat.pow_succ, Nat.mod_mul]
  have e2 : ∀ a : Nat, a * 18446744073709551616 ^ (k + 1) = 18446744073709551616 ^ k * (a * 18446744073709551616) := by intro a; rw [Nat.pow_succ]; ac_rfl
  rw [e, e2, Nat.add_comm (X % _), ← Nat.add_assoc, ← Nat.mul_add, Nat.add_comm, Nat.add_mul_div_left _ _ hB, Nat.div_eq_of_lt (Nat.mod_lt _ hB), Nat.zero_add]
theorem lq_Umod (X V k : Nat) : lqU X V (k + 1) % 18446744073709551616 ^ k = X % 18446744073709551616 ^ k := by
  unfold lqU
  have e : X % 18446744073709551616 ^ (k + 1) = X % 18446744073709551616 ^ k + 18446744073709551616 ^ k * (X / 18446744073709551616 ^ k % 18446744073709551616) := by rw [Nat.pow_succ, Nat.mod_mul]
  have e2 : ∀ a : Nat, a * 18446744073709551616 ^ (k + 1) = 18446744073709551616 ^ k * (a * 18446744073709551616) := by intro a; rw [Nat.pow_succ]; ac_rfl
  rw [e, e2, Nat.add_comm (X % _), ← Nat.add_assoc, ← Nat.mul_add, Nat.add_comm, Nat.add_mul_mod_self_left, Nat.mod_mod]
theorem lq_drop {L k : Nat} (U : Nat) (h : k ≤ L) : (wds L U).drop k = wds (L - k) (U / 18446744073709551616 ^ k) := by
  have e := dgs_append (B := 18446744073709551616) k (L - k) U
  rw [show k + (L - k) = L by omega] at e
  show (dgs _ L U).drop k = dgs _ _ _
  rw [e, List.drop_left' (dgs_length _ _ _)]
theorem lq_take {L k : Nat} (U : Nat) (h : k ≤ L) : (wds L U).take k = wds k U := by
  have e := dgs_append (B := 18446744073709551616) k (L - k) U
  rw [show k + (L - k) = L by omega] at e
  show (dgs _ L U).take k = dgs _ _ _
  rw [e, List.take_left' (dgs_length _ _ _)]
theorem lq_piece {X V L n k : Nat} (hV : 0 < V) (hVn : V < 18446744073709551616 ^ n) (hL : k + (n + 1) ≤ L) : ((wds L (lqU X V (k + 1))).drop k).take (n + 1) = wds (n + 1) (lqP X V k) ∧ nW (((wds L (lqU X V (k + 1))).drop k).take (n + 1)) = lqP X V k := by
  have e : ((wds L (lqU X V (k + 1))).drop k).take (n + 1) = wds (n + 1) (lqP X V k) := by
    rw [lq_drop _ (by omega), lq_U, lq_take _ (by omega)]
  refine ⟨e, ?_⟩
  rw [e]
  refine nW_wds (Nat.lt_of_lt_of_le (lq_lt k hV) ?_)
  rw [Nat.pow_succ]
  exact Nat.mul_le_mul_right _ (by omega)
theorem wds_modk (k x : Nat) : wds k (x % 18446744073709551616 ^ k) = wds k x := dgs_mod _ _
theorem lq_splice {X V L n k : Nat} (hV : 0 < V) (hVn : V < 18446744073709551616 ^ n) (hL : k + (n + 1) ≤ L) : splW (wds L (lqU X V (k + 1))) k (n + 1) (lqP X V k - V * (lqP X V k / V)) = wds L (lqU X V k) := by
  have hm : lqP X V k - V * (lqP X V k / V) = X / 18446744073709551616 ^ k % V := by
    rw [lq_mod k hV]
    have := Nat.div_add_mod (lqP X V k) V
    omega
  have hB : 0 < 18446744073709551616 ^ k := Nat.pow_pos (by decide)
  have h2 : lqU X V k / 18446744073709551616 ^ k = X / 18446744073709551616 ^ k % V := by
    unfold lqU
    rw [Nat.mul_comm, Nat.add_comm, Nat.add_mul_div_left _ _ hB, Nat.div_eq_of_lt (Nat.mod_lt _ hB), Nat.zero_add]
  have h3 : lqU X V k % 18446744073709551616 ^ k = X % 18446744073709551616 ^ k := by
    unfold lqU
    rw [Nat.mul_comm, Nat.add_comm, Nat.add_mul_mod_self_left, Nat.mod_mod]
  have h4 : X / 18446744073709551616 ^ k % V < 18446744073709551616 ^ n := Nat.lt_trans (Nat.mod_lt _ hV) hVn
  have hPn : lqP X V k < 18446744073709551616 ^ (n + 1) := by
    refine Nat.lt_of_lt_of_le (lq_lt k hV) ?_
    rw [Nat.pow_succ]
    exact Nat.mul_le_mul_right _ (by omega)
  have hn1 : 18446744073709551616 ^ n ≤ 18446744073709551616 ^ (n + 1) := Nat.pow_le_pow_right (by decide) (by omega)
  unfold splW
  rw [hm, lq_take _ (by omega), ← wds_modk k, lq_Umod, ← h3, wds_modk, ← List.drop_drop, lq_drop _ (by omega), lq_U, lq_drop _ (by omega), Nat.div_eq_of_lt hPn, ← h2]
  have e := dgs_append (B := 18446744073709551616) k (L - k) (lqU X V k)
  have e2 := dgs_append (B := 18446744073709551616) (n + 1) (L - k - (n + 1)) (lqU X V k / 18446744073709551616 ^ k)
  rw [show n + 1 + (L - k - (n + 1)) = L - k by omega, show lqU X V k / 18446744073709551616 ^ k / 18446744073709551616 ^ (n + 1) = 0 from Nat.div_eq_of_lt (by rw [h2]; omega)] at e2
  rw [show k + (L - k) = L by omega, e2] at e
  exact e.symm
theorem lq_set {X V la k : Nat} (hV : 0 < V) (hk : k < la) : (wds la (lqQ X V (k + 1))).set k ((lqP X V k / V : Nat) : Int) = wds la (lqQ X V k) := by
  have hlen : (wds la (lqQ X V (k + 1))).length = la := dgs_length _ _ _
  have hg : lqP X V k / V < 18446744073709551616 := by rw [Nat.div_lt_iff_lt_mul hV, Nat.mul_comm]; exact lq_lt k hV
  have hB : 0 < 18446744073709551616 ^ k := Nat.pow_pos (by decide)
  have hq : lqQ X V (k + 1) = 18446744073709551616 ^ k * (X / 18446744073709551616 ^ (k + 1) / V * 18446744073709551616) := by unfold lqQ; rw [Nat.pow_succ]; ac_rfl
  have hat : at0 (wds la (lqQ X V (k + 1))) k = 0 := by
    have := at0_dgs (B := 18446744073709551616) (lqQ X V (k + 1)) hk
    rw [hq, Nat.mul_div_cancel_left _ hB, Nat.mul_mod_left] at this
    rw [hq]; exact this
  refine dgs_eq (dg_set (wds_Wd _ _) ⟨Int.natCast_nonneg _, by exact_mod_cast hg⟩ _) (by rw [List.length_set, hlen]) ?_
  have h9 := num_set (B := 18446744073709551616) (l := wds la (lqQ X V (k + 1))) (i := k) ((lqP X V k / V : Nat) : Int) (by rw [hlen]; exact hk)
  rw [hat, Int.toNat_natCast, num_dgs] at h9
  simp only [Int.toNat_zero, Nat.zero_mul, Nat.add_zero] at h9
  rw [h9, Nat.mod_add_mod]
  congr 1
  unfold lqQ
  rw [lq_div k hV, Nat.add_mul, Nat.pow_succ]
  congr 1
  ac_rfl
theorem lq_none {X V la k : Nat} (hV : 0 < V) (hX : X < 18446744073709551616 ^ la * V) (hk : la ≤ k) : lqQ X V k = 0 ∧ lqP X V k / V = 0 := by
  have h1 : ∀ j, la ≤ j → X / 18446744073709551616 ^ j / V = 0 := by
    intro j hj
    refine Nat.div_eq_of_lt ?_
    rw [Nat.div_lt_iff_lt_mul (Nat.pow_pos (by decide)), Nat.mul_comm]
    exact Nat.lt_of_lt_of_le hX (Nat.mul_le_mul_right _ (Nat.pow_le_pow_right (by decide) hj))
  refine ⟨by unfold lqQ; rw [h1 k hk, Nat.zero_mul], ?_⟩
  have := lq_div (X := X) k hV
  rw [h1 k hk] at this
  exact (Nat.add_eq_zero_iff.1 this.symm).2
theorem lq_guess {P V n : Nat} (hn : 0 < n) (hV : 0 < V) (hVt : 0 < V / 18446744073709551616 ^ (n - 1)) : P / V ≤ P / 18446744073709551616 ^ (n - 1) / (V / 18446744073709551616 ^ (n - 1)) := by
  rw [Nat.le_div_iff_mul_le hVt, Nat.le_div_iff_mul_le (Nat.pow_pos (by decide)), Nat.mul_assoc]
  exact Nat.le_trans (Nat.mul_le_mul_left _ (Nat.div_mul_le_self _ _)) (Nat.div_mul_le_self _ _)
theorem lq_tops {X V L n k : Nat} (hn : 0 < n) (hV : 0 < V) (hVn : V < 18446744073709551616 ^ n) (hL : k + (n + 1) ≤ L) :
    at0 (wds L (lqU X V (k + 1))) (k + n) = ((lqP X V k / 18446744073709551616 ^ n : Nat) : Int) ∧ at0 (wds L (lqU X V (k + 1))) (k + n - 1) = ((lqP X V k / 18446744073709551616 ^ (n - 1) % 18446744073709551616 : Nat) : Int) ∧ at0 (wds n V) (n - 1) = ((V / 18446744073709551616 ^ (n - 1) : Nat) : Int) ∧
      lqP X V k / 18446744073709551616 ^ n * 18446744073709551616 + lqP X V k / 18446744073709551616 ^ (n - 1) % 18446744073709551616 = lqP X V k / 18446744073709551616 ^ (n - 1) := by
  have hPn : lqP X V k < 18446744073709551616 ^ n * 18446744073709551616 := by
    refine Nat.lt_of_lt_of_le (lq_lt k hV) ?_
    exact Nat.mul_le_mul_right _ (by omega)
  refine ⟨?_, ?_, ?_, ?_⟩
  · have := at0_dgs (B := 18446744073709551616) (lqU X V (k + 1)) (show k + n < L by omega)
    rw [Nat.pow_add, ← Nat.div_div_eq_div_mul, lq_U, Nat.mod_eq_of_lt (by rw [Nat.div_lt_iff_lt_mul (Nat.pow_pos (by decide)), Nat.mul_comm]; exact hPn)] at this
    exact this
  · have := at0_dgs (B := 18446744073709551616) (lqU X V (k + 1)) (show k + (n - 1) < L by omega)
    rw [Nat.pow_add, ← Nat.div_div_eq_div_mul, lq_U] at this
    rw [show k + n - 1 = k + (n - 1) by omega]
    exact this
  · have := at0_dgs (B := 18446744073709551616) V (show n - 1 < n by omega)
    rw [Nat.mod_eq_of_lt (by rw [Nat.div_lt_iff_lt_mul (Nat.pow_pos (by decide)), ← Nat.pow_succ', show (n - 1).succ = n by omega]; exact hVn)] at this
    exact this
  · have := lq_word (lqP X V k) (n - 1)
    rw [show n - 1 + 1 = n by omega] at this
    omega
theorem lq_back (R i s : Nat) (hs : s ≤ 64) : R * 2 ^ s / 18446744073709551616 ^ i % 18446744073709551616 / 2 ^ s + R * 2 ^ s / 18446744073709551616 ^ (i + 1) % 18446744073709551616 * 2 ^ (64 - s) % 18446744073709551616 = R / 18446744073709551616 ^ i % 18446744073709551616 := by
  have hS : 0 < 2 ^ s := Nat.pow_pos (by decide)
  have hpp : 2 ^ s * 2 ^ (64 - s) = 18446744073709551616 := by rw [← Nat.pow_add, show s + (64 - s) = 64 by omega]
  have h1 : R * 2 ^ s / 18446744073709551616 ^ i / 2 ^ s = R / 18446744073709551616 ^ i := by
    rw [Nat.div_div_eq_div_mul, Nat.mul_div_mul_right _ _ hS]
  obtain ⟨T, hT⟩ : ∃ T, T = R * 2 ^ s / 18446744073709551616 ^ i := ⟨_, rfl⟩
  have h2 : R * 2 ^ s / 18446744073709551616 ^ (i + 1) = T / 18446744073709551616 := by rw [Nat.pow_succ, ← Nat.div_div_eq_div_mul, hT]
  rw [h2, ← hT]
  rw [← hT] at h1
  obtain ⟨y, hy⟩ : ∃ y, y = R / 18446744073709551616 ^ i := ⟨_, rfl⟩
  rw [← hy] at h1 ⊢
  have h3 : T / 18446744073709551616 = y / 2 ^ (64 - s) := by rw [← h1, Nat.div_div_eq_div_mul, hpp]
  have h4 : T % 18446744073709551616 / 2 ^ s = y % 2 ^ (64 - s) := by
    rw [← h1, ← hpp, Nat.mod_mul_right_div_self]
  have h5 : y / 2 ^ (64 - s) % 18446744073709551616 * 2 ^ (64 - s) % 18446744073709551616 = 2 ^ (64 - s) * (y / 2 ^ (64 - s) % 2 ^ s) := by
    conv => lhs; rw [← hpp]
    rw [Nat.mul_mod_mul_right, Nat.mod_mul_right_mod, Nat.mul_comm]
  rw [h3, h4, h5, ← Nat.mod_mul, Nat.mul_comm, hpp]
theorem lq_bits (R i s : Nat) (hs0 : 0 < s) (hs : s < 64) : Go.bits .or .u64 (((R * 2 ^ s / 18446744073709551616 ^ i % 18446744073709551616 : Nat) : Int) / 2 ^ s) (IntKind.u64.wrap (((R * 2 ^ s / 18446744073709551616 ^ (i + 1) % 18446744073709551616 : Nat) : Int) * 2 ^ (64 - s))) = ((R / 18446744073709551616 ^ i % 18446744073709551616 : Nat) : Int) := by
  have hb := lq_back R i s (by omega)
  have h0 : R * 2 ^ s / 18446744073709551616 ^ i % 18446744073709551616 < 18446744073709551616 := Nat.mod_lt _ (by decide)
  generalize R * 2 ^ s / 18446744073709551616 ^ i % 18446744073709551616 = x at *
  generalize R * 2 ^ s / 18446744073709551616 ^ (i + 1) % 18446744073709551616 = y at *
  have hS : 0 < 2 ^ s := Nat.pow_pos (by decide)
  have hpp : 2 ^ s * 2 ^ (64 - s) = 18446744073709551616 := by rw [← Nat.pow_add, show s + (64 - s) = 64 by omega]
  obtain ⟨a, ha⟩ : ∃ a, a = x / 2 ^ s := ⟨_, rfl⟩
  obtain ⟨b, hbb⟩ : ∃ b, b = y * 2 ^ (64 - s) % 18446744073709551616 := ⟨_, rfl⟩
  have e1 : (x : Int) / 2 ^ s = (a : Int) := by
    have e : (2 : Int) ^ s = ((2 ^ s : Nat) : Int) := by simp
    rw [e, ← Int.natCast_ediv, ha]
  have e2 : IntKind.u64.wrap ((y : Int) * 2 ^ (64 - s)) = (b : Int) := by
    rw [wU, hbb]
    have e : ((y : Int) * 2 ^ (64 - s)) = ((y * 2 ^ (64 - s) : Nat) : Int) := by simp
    rw [e]; omega
  have hal : a < 2 ^ (64 - s) := by rw [ha, Nat.div_lt_iff_lt_mul hS, Nat.mul_comm, hpp]; exact h0
  have hbm : b % 2 ^ (64 - s) = 0 := by
    rw [hbb, ← hpp, Nat.mul_mod_mul_right, Nat.mul_mod_left]
  have hbl : b < 18446744073709551616 := by rw [hbb]; exact Nat.mod_lt _ (by decide)
  have hal2 : a < 18446744073709551616 := Nat.lt_of_lt_of_le hal (Nat.pow_le_pow_right (by decide) (by omega : 64 - s ≤ 64))
  rw [← ha, ← hbb] at hb
  rw [e1, e2, u64_or _ _ (by omega) (by omega) (by omega) (by omega), Int.toNat_natCast, Int.toNat_natCast, Nat.or_comm, nat_join (64 - s)]
  · rw [← hb]; omega
  · exact hbm
  · exact hal
theorem lq_one (R i s : Nat) (hs : s ≤ 64) (h : s = 0 ∨ R * 2 ^ s < 18446744073709551616 ^ (i + 1)) : ((R * 2 ^ s / 18446744073709551616 ^ i % 18446744073709551616 : Nat) : Int) / 2 ^ s = ((R / 18446744073709551616 ^ i % 18446744073709551616 : Nat) : Int) := by
  have hb := lq_back R i s hs
  have hz : R * 2 ^ s / 18446744073709551616 ^ (i + 1) % 18446744073709551616 * 2 ^ (64 - s) % 18446744073709551616 = 0 := by
    rcases h with h | h
    · subst h; exact Nat.mul_mod_left _ _
    · rw [Nat.div_eq_of_lt h]; simp
  rw [hz, Nat.add_zero] at hb
  have e : (2 : Int) ^ s = ((2 ^ s : Nat) : Int) := by simp
  rw [e, ← Int.natCast_ediv, hb]
theorem lq_done {A M s : Nat} (hs : 0 < 2 ^ s) : lqU (A * 2 ^ s) (M * 2 ^ s) 0 = A % M * 2 ^ s ∧ lqQ (A * 2 ^ s) (M * 2 ^ s) 0 = A / M := by
  unfold lqU lqQ
  simp [Nat.mod_one, Nat.mul_mod_mul_right, Nat.mul_div_mul_right _ _ hs]
end Go.Proofs.Ytalfniohakahlaa.X
