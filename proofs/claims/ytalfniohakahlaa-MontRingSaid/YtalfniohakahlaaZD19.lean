/- Texts of the walk and of the plain laws, laid together by a program: Dq, Dw, X11, Sp5b. -/
import Derived.Defers
import Derived.Recover
import Derived.Test.YtalfniohakahlaaZD0
import Derived.Test.YtalfniohakahlaaZD1
import Derived.Test.YtalfniohakahlaaZD2
import Derived.Test.YtalfniohakahlaaZD5
import Derived.Test.YtalfniohakahlaaZD4
import Derived.Test.YtalfniohakahlaaZD6
import Derived.Test.YtalfniohakahlaaZD3
import Derived.Test.YtalfniohakahlaaZD12
import Derived.Test.YtalfniohakahlaaZD17
import Derived.Test.YtalfniohakahlaaZD18
section
namespace Go.Proofs.Ytalfniohakahlaa.X
open Go.RowKit Go.Proofs.YtalfniohakahlaaW.PrintWords Go.Proofs.YtalfniohakahlaaW.PrintLast Go.Proofs.YtalfniohakahlaaW.PrintMore Go.Proofs.Ytalfniohakahlaa.Ma
set_option linter.unusedVariables false
theorem dq_set {n Q k : Nat} (hk : k < 64 * n) (hQ : Q % 2 ^ (k + 1) = 0) (hQl : Q < 18446744073709551616 ^ n) {f : Nat} (hf : f < 2) :
    (wds n Q).set (k / 64) (Go.bits .or .u64 (at0 (wds n Q) (k / 64)) (IntKind.u64.wrap ((f : Int) * 2 ^ (k % 64)))) = wds n (Q + f * 2 ^ k) := by
  have hk2 : k / 64 < n := by omega
  have hlen : (wds n Q).length = n := dgs_length _ _ _
  have hat : at0 (wds n Q) (k / 64) = ((Q / 18446744073709551616 ^ (k / 64) % 18446744073709551616 : Nat) : Int) := at0_dgs Q hk2
  have eW : 18446744073709551616 ^ (k / 64) = 2 ^ (64 * (k / 64)) := by rw [Nat.pow_mul]
  have hkk : 64 * (k / 64) + k % 64 = k := Nat.div_add_mod k 64
  have hj : k % 64 < 64 := Nat.mod_lt _ (by decide)
  have hz : Q / 2 ^ (64 * (k / 64)) % 18446744073709551616 % 2 ^ (k % 64 + 1) = 0 := by
    rw [show 18446744073709551616 = 2 ^ (k % 64 + 1) * 2 ^ (63 - k % 64) by rw [← Nat.pow_add, show k % 64 + 1 + (63 - k % 64) = 64 by omega], Nat.mod_mul_right_mod]
    have h5 := Nat.mod_mul_right_div_self Q (2 ^ (64 * (k / 64))) (2 ^ (k % 64 + 1))
    rw [← Nat.pow_add, show 64 * (k / 64) + (k % 64 + 1) = k + 1 by omega, hQ, Nat.zero_div] at h5
    exact h5.symm
  generalize hw0 : Q / 2 ^ (64 * (k / 64)) % 18446744073709551616 = w0 at *
  have hw0l : w0 < 18446744073709551616 := by rw [← hw0]; exact Nat.mod_lt _ (by decide)
  have hp : 2 ^ (k % 64) ≤ 2 ^ 63 := Nat.pow_le_pow_right (by decide) (by omega)
  have hfl : f * 2 ^ (k % 64) < 18446744073709551616 := by
    have : f * 2 ^ (k % 64) ≤ 1 * 2 ^ (k % 64) := Nat.mul_le_mul_right _ (by omega)
    omega
  have hfw : IntKind.u64.wrap ((f : Int) * 2 ^ (k % 64)) = ((f * 2 ^ (k % 64) : Nat) : Int) := by
    rw [wU]
    have e : ((f : Int) * 2 ^ (k % 64)) = ((f * 2 ^ (k % 64) : Nat) : Int) := by simp
    rw [e]; omega
  have hflt : f * 2 ^ (k % 64) < 2 ^ (k % 64 + 1) := by
    rw [Nat.pow_succ, Nat.mul_comm (2 ^ (k % 64))]
    exact Nat.mul_lt_mul_of_pos_right hf (Nat.pow_pos (by decide))
  have hor : Go.bits .or .u64 (w0 : Int) ((f * 2 ^ (k % 64) : Nat) : Int) = ((w0 + f * 2 ^ (k % 64) : Nat) : Int) := by
    rw [b_or_add (k % 64 + 1) (by omega) (by omega) (by omega) (by omega) (by exact_mod_cast hz) (by exact_mod_cast hflt)]; omega
  have hsum : w0 + f * 2 ^ (k % 64) < 18446744073709551616 := by
    have h6 : 2 ^ (k % 64 + 1) ∣ w0 := Nat.dvd_of_mod_eq_zero hz
    have h7 : (18446744073709551616 : Nat) = 2 ^ (k % 64 + 1) * 2 ^ (63 - k % 64) := by rw [← Nat.pow_add, show k % 64 + 1 + (63 - k % 64) = 64 by omega]
    obtain ⟨c, hc⟩ := h6
    rw [hc, h7] at hw0l ⊢
    have h8 : c < 2 ^ (63 - k % 64) := Nat.lt_of_mul_lt_mul_left hw0l
    calc 2 ^ (k % 64 + 1) * c + f * 2 ^ (k % 64) < 2 ^ (k % 64 + 1) * c + 2 ^ (k % 64 + 1) := by omega
      _ = 2 ^ (k % 64 + 1) * (c + 1) := by rw [Nat.mul_add, Nat.mul_one]
      _ ≤ 2 ^ (k % 64 + 1) * 2 ^ (63 - k % 64) := Nat.mul_le_mul_left _ h8
  rw [hat, eW, hw0, hfw, hor]
  have hdg : dg ((18446744073709551616 : Nat) : Int) ((wds n Q).set (k / 64) ((w0 + f * 2 ^ (k % 64) : Nat) : Int)) := dg_set (wds_Wd n Q) ⟨by omega, by omega⟩ _
  refine dgs_eq hdg (by rw [List.length_set, hlen]) ?_
  congr 1
  have h9 := num_set (B := 18446744073709551616) (l := wds n Q) (i := k / 64) ((w0 + f * 2 ^ (k % 64) : Nat) : Int) (by rw [hlen]; exact hk2)
  rw [hat, eW, hw0, Int.toNat_natCast, Int.toNat_natCast, num_dgs, Nat.mod_eq_of_lt hQl, Nat.add_mul, Nat.mul_assoc f, ← Nat.pow_add, Nat.add_comm (k % 64), hkk] at h9
  omega
theorem dq_round {T : Nat} {l2 : List Int} (h2 : Wd l2) (hn : l2.length ≤ 300) (hT : T < 2 * nW l2) : ∃ (less : List Int) (low : Int) (f : Nat), limbs_Sub.f (wds l2.length T) l2 = some (less, low) ∧ f < 2 ∧ f = (if nW l2 ≤ T then 1 else 0) ∧
    Go.bits .or .u64 ((T / 18446744073709551616 ^ l2.length : Nat) : Int) (Go.bits .xor .u64 1 low) = (f : Int) ∧ limbs_Select.f (f : Int) less (wds l2.length T) = some (wds l2.length (T % nW l2)) ∧ Go.bits .and .u64 (f : Int) 1 = (f : Int) := by
  have hM := nW_lt h2
  have hlT : (wds l2.length T).length = l2.length := dgs_length _ _ _
  have hWT : Wd (wds l2.length T) := wds_Wd _ _
  have hnT : nW (wds l2.length T) = T % 18446744073709551616 ^ l2.length := num_dgs _ _
  have hs := sp_limbs_Sub hWT h2 (by rw [hlT, Nat.max_self]; omega)
  have hmx : max (wds l2.length T).length l2.length = l2.length := by rw [hlT, Nat.max_self]
  rw [hmx, hnT] at hs
  generalize hP : 18446744073709551616 ^ l2.length = P at *
  generalize hMm : nW l2 = M at *
  have hP0 : 0 < P := by omega
  have sel : ∀ (f : Nat) (x : Nat), f < 2 → limbs_Select.f (f : Int) (wds l2.length x) (wds l2.length T) = some (if f = 1 then wds l2.length x else wds l2.length T) := by
    intro f x hf
    rw [sp_limbs_Select (by rw [wd_iff]; omega) (wds_Wd _ _) (wds_Wd _ _) (by rw [dgs_length, dgs_length, Nat.max_self]; omega)]
    rw [dgs_length, dgs_length, Nat.max_self]
    congr 1
    have e1 : ∀ y : Nat, wds l2.length (nW (wds l2.length y)) = wds l2.length y := fun y => by
      show dgs _ _ _ = dgs _ _ _
      rw [show nW (wds l2.length y) = y % 18446744073709551616 ^ l2.length from num_dgs _ _, dgs_mod]
    rcases (show f = 0 ∨ f = 1 by omega) with rfl | rfl
    · rw [if_neg (by omega), if_neg (by omega), e1]
    · rw [if_pos (by omega), if_pos rfl, e1]
  rcases Nat.lt_or_ge T M with hlt | hge
  · have ht : T % P = T := Nat.mod_eq_of_lt (by omega)
    rw [ht, if_pos hlt] at hs
    refine ⟨_, _, 0, hs, by omega, by rw [if_neg (by omega)], ?_, ?_, by decide⟩
    · rw [Nat.div_eq_of_lt (show T < P by omega)]; decide
    · rw [sel 0 _ (by omega), if_neg (by omega), Nat.mod_eq_of_lt hlt]
  · have hTM : T % M = T - M := by rw [Nat.mod_eq_sub_mod hge, Nat.mod_eq_of_lt (by omega)]
    rcases Nat.lt_or_ge T P with hp | hp
    · have ht : T % P = T := Nat.mod_eq_of_lt hp
      rw [ht, if_neg (by omega)] at hs
      refine ⟨_, _, 1, hs, by omega, by rw [if_pos hge], ?_, ?_, by decide⟩
      · rw [Nat.div_eq_of_lt hp]; decide
      · rw [sel 1 _ (by omega), if_pos rfl, hTM]
    · have ht : T % P = T - P := by rw [Nat.mod_eq_sub_mod hp, Nat.mod_eq_of_lt (by omega)]
      rw [ht, if_pos (by omega)] at hs
      rw [show T - P + P - M = T - M by omega] at hs
      refine ⟨_, _, 1, hs, by omega, by rw [if_pos hge], ?_, ?_, by decide⟩
      · rw [Nat.div_eq_of_lt_le (k := 1) (by omega) (by omega)]; decide
      · rw [sel 1 _ (by omega), if_pos rfl, hTM]
end Go.Proofs.Ytalfniohakahlaa.X
end
section
namespace Go.Proofs.Ytalfniohakahlaa.X
open Go.RowKit Go.Proofs.YtalfniohakahlaaW.PrintWords Go.Proofs.YtalfniohakahlaaW.PrintLast Go.Proofs.YtalfniohakahlaaW.PrintMore Go.Proofs.Ytalfniohakahlaa.Ma
set_option linter.unusedVariables false
set_option linter.unusedSimpArgs false
theorem box_stay {w W : World} {b : Nat} {v : Value} {t : TypeId} (h : w.heap[b]? = some (.cells #[v] t (0, 0))) (hb : Below w.heap.size w W) : W.cell? ⟨b, 0, none⟩ = some v := cell_of_one (blk_below h hb)
def DvI (w : World) (A M n m k : Nat) (vq vr : Value) (wr : World) : Prop :=
  Kd.R (Kd.int .u64) 37 wr w.heap.size (fun k_ => w.heap.size ≤ k_) vq (wds n (A / 2 ^ k / M * 2 ^ k)) ∧
  Kd.R (Kd.int .u64) 37 wr w.heap.size (fun k_ => w.heap.size ≤ k_ ∧ some k_ ≠ vq.ownBlock) vr (wds m (A / 2 ^ k % M)) ∧ Below w.heap.size w wr
theorem DvI.step {w wr w7 : World} {A M n m kk gq cq f base7 : Nat} {vr v7 : Value} (hI : DvI w A M n m (kk + 1) (.slice (some ⟨gq, 0, none⟩) n cq) vr wr) (hB7 : Below wr.heap.size wr w7) (hb7 : wr.heap.size ≤ base7)
    (hR7 : Kd.R (Kd.int .u64) 37 w7 base7 (fun _ => True) v7 (wds m (A / 2 ^ kk % M))) (hkk : kk < 64 * n) (hA : A < 18446744073709551616 ^ n) (hf : f < 2) (hq : A / 2 ^ kk / M = 2 * (A / 2 ^ (kk + 1) / M) + f) :
    ∃ y0 : Int, w7.cell? ⟨gq, kk / 64, none⟩ = some (.int .u64 y0) ∧ w7.frozen? ⟨gq, kk / 64, none⟩ = false ∧
      DvI w A M n m kk (.slice (some ⟨gq, 0, none⟩) n cq) v7 ((w7.setCell ⟨gq, kk / 64, none⟩ (.int .u64 (Go.bits .or .u64 y0 (IntKind.u64.wrap ((f : Int) * 2 ^ (kk % 64)))))).drew) := by
  obtain ⟨h1, h2, h3⟩ := hI
  have hk : kk / 64 < n := by omega
  have hlt : gq < wr.heap.size := Kd.R_lt h1 gq rfl
  have hwq : w.heap.size ≤ gq := h1.1 gq rfl
  have h17 := Kd.R_below h1 hB7
  obtain ⟨hx, hfz⟩ := Kd.R_celln 0 h17 ((kk / 64 : Nat) : Int) (by omega) (by omega)
  rw [Int.toNat_natCast] at hx hfz
  obtain ⟨hP, hQ⟩ := Kd.R_putg h17 ((kk / 64 : Nat) : Int) (Go.bits .or .u64 (at0 (wds n (A / 2 ^ (kk + 1) / M * 2 ^ (kk + 1))) (kk / 64)) (IntKind.u64.wrap ((f : Int) * 2 ^ (kk % 64))))
  rw [Int.toNat_natCast] at hP hQ
  have hQl : A / 2 ^ (kk + 1) / M * 2 ^ (kk + 1) < 18446744073709551616 ^ n := by
    refine Nat.lt_of_le_of_lt (Nat.le_trans (Nat.mul_le_mul_right _ (Nat.div_le_self _ _)) (Nat.div_mul_le_self _ _)) hA
  rw [dq_set hkk (Nat.mul_mod_left _ _) hQl hf, show A / 2 ^ (kk + 1) / M * 2 ^ (kk + 1) + f * 2 ^ kk = A / 2 ^ kk / M * 2 ^ kk by rw [hq, Nat.add_mul, Nat.pow_succ]; congr 1; rw [Nat.mul_comm (2 ^ kk) 2, ← Nat.mul_assoc, Nat.mul_comm _ 2]] at hP
  refine ⟨at0 (wds n (A / 2 ^ (kk + 1) / M * 2 ^ (kk + 1))) (kk / 64), ?_, hfz, ?_⟩
  · rw [hx]
    show some (Value.int .u64 (rdOf 0 _ _)) = _
    unfold rdOf at0
    rw [Int.toNat_natCast]
  · have h7b := Kd.R_bound hR7
    refine ⟨Kd.R_below hP (Below.drew (Below.refl _ _)), Kd.R_below (Kd.R_grown (Kd.R_mono (Kd.R_lower h7b (by omega)) (ok' := fun k_ => w.heap.size ≤ k_ ∧ some k_ ≠ (Value.slice (some ⟨gq, 0, none⟩) n cq).ownBlock) (fun k hk2 => ⟨?_, ?_⟩)) hQ (fun k hk2 e => ?_)) (Below.drew (Below.refl _ _)), ?_⟩
    · have := hk2.2.1
      omega
    · have := hk2.2.1
      simp [Value.ownBlock]
      omega
    · exact hk2.2 e
    · exact Below.drew (pw_below_grown (below_then h3 h3.size hB7) (some gq) (below_then h3 h3.size hB7).size hQ (fun k hk2 => by cases hk2; exact hwq))
end Go.Proofs.Ytalfniohakahlaa.X
end
section
namespace Go.Proofs.Ytalfniohakahlaa.X
open Go.RowKit Go.Proofs.YtalfniohakahlaaW.PrintWords Go.Proofs.YtalfniohakahlaaW.PrintLast Go.Proofs.YtalfniohakahlaaW.PrintMore
attribute [local go_sem] max2_int min2_int max_two min_two max_three min_three max_four min_four
set_option linter.unusedVariables false
set_option linter.unusedSimpArgs false
def sconcelaw05_Few.l0 : Nat → List (List Int) → Int → Int → Option (Bool)
 | 0, _, _, _ => none
 | k + 1, x5, x6, x7 => if x7 < x6 then (if 0 ≤ x7 then (if x7 < (x5.length : Int) then (if ((rd_L2 x5 x7).length : Int) > 40 then (some false) else (sconcelaw05_Few.l0 k x5 x6 (wrap64 (x7 + 1)))) else (none)) else (none)) else (some true)
def sconcelaw05_Few.f (k : Nat) (l0 : List (List Int)) : Option (Bool) := sconcelaw05_Few.l0 k l0 (l0.length : Int) 0
set_option maxHeartbeats 8000000 in
set_option maxRecDepth 100000 in
theorem sconcelaw05_Few.calls (k : Nat) (A0 : Option Addr) (c0 : Nat) (l0 : List (List Int)) (r : Bool) (w : World) (hr0 : Kd.C (Kd.slice 37 (Kd.int .u64)) w A0 l0.length l0) (hc0 : l0.length ≤ c0) (h : sconcelaw05_Few.f k l0 = some r) :
  Calls Try.prog 16 #[.slice A0 l0.length c0] w fun e w' => e = .returned (.bool r) ∧ Drawn0 w w' := by
 have HR0 := Aside0.mk hr0
 have HC0 := Aside0.mk hc0
 clear hr0 hc0
 have H : (sconcelaw05_Few.l0 k l0 (l0.length : Int) 0) = some r := h
 clear h
 have H' := Aside0.mk H
 clear H
 go_enter Try.func16, Try.ntmps16
 go_wp2
 go_loopg [7] k (fun kq v7 w' => ∃ (x7_1 : Int), v7 = .int .i64 x7_1 ∧ Aside0 (sconcelaw05_Few.l0 kq l0 (l0.length : Int) x7_1 = some r) ∧ Aside0 (kq ≤ k) ∧ Drawn0 w w')
 case atStart => exact ⟨(0), (by first | rfl | (simp; done) | (simp [*]; done)), H', ⟨Nat.le_refl _⟩, by repeat (first | exact Drawn0.refl _ | apply Drawn0.step)⟩
 case round =>
  clear H'
  try clear c1
  obtain ⟨x7_1, rfl, HA, HK1, ⟨m1, rfl⟩⟩ := hrel
  cases gk with
  | zero => exact absurd HA.out (by simp [sconcelaw05_Few.l0])
  | succ k1 =>
   have H := HA.out
   clear HA
   simp only [sconcelaw05_Few.l0] at H
   by_cases c2 : x7_1 < (l0.length : Int)
   ·
    rw [if_pos c2] at H
    have c2b0 : decide (x7_1 < (l0.length : Int)) = true := decide_eq_true c2
    clear c2
    by_cases c3 : 0 ≤ x7_1
    ·
     rw [if_pos c3] at H
     have c3b0 : decide (0 ≤ x7_1) = true := decide_eq_true c3
     clear c3
     by_cases c4 : x7_1 < (l0.length : Int)
     ·
      rw [if_pos c4] at H
      have c4b0 : decide (x7_1 < (l0.length : Int)) = true := decide_eq_true c4
      clear c4
      by_cases c5 : ((rd_L2 l0 x7_1).length : Int) > 40
      ·
       rw [if_pos c5] at H
       have c5b0 : decide (40 < ((rd_L2 l0 x7_1).length : Int)) = true := decide_eq_true c5
       have c5b1 : decide (40 < (rd_L2 l0 x7_1).length) = true := decide_eq_true (by omega)
       clear c5
       obtain rfl := Option.some.inj H
       have p257 : 0 ≤ (x7_1 : Int) := of_decide_eq_true vD
       have q257 : x7_1 < (l0.length : Int) := of_decide_eq_true vD
       obtain ⟨ad257, A257_0, c257_0, e257, hx257_0, hl257_0, hi257_0⟩ := at_L2 HR0.out x7_1 p257 q257
       cases e257
       have HR257_0 := Aside0.mk hi257_0
       have HC257_0 := Aside0.mk hl257_0
       clear hi257_0 hl257_0
       replace p257 := eq_true p257
       replace q257 := eq_true q257
       go_wp2
       go_ret
       exact ⟨by first | rfl | (simp; done) | (simp [*]; done), by repeat (first | exact Drawn0.refl _ | apply Drawn0.step)⟩
      ·
       rw [if_neg c5] at H
       have c5b0 : decide (40 < ((rd_L2 l0 x7_1).length : Int)) = false := decide_eq_false c5
       have c5b1 : decide (40 < (rd_L2 l0 x7_1).length) = false := decide_eq_false (by omega)
       clear c5
       have H' := Aside0.mk H
       clear H
       have p257 : 0 ≤ (x7_1 : Int) := of_decide_eq_true vD
       have q257 : x7_1 < (l0.length : Int) := of_decide_eq_true vD
       obtain ⟨ad257, A257_0, c257_0, e257, hx257_0, hl257_0, hi257_0⟩ := at_L2 HR0.out x7_1 p257 q257
       cases e257
       have HR257_0 := Aside0.mk hi257_0
       have HC257_0 := Aside0.mk hl257_0
       clear hi257_0 hl257_0
       replace p257 := eq_true p257
       replace q257 := eq_true q257
       go_wp2
       go_roundg k1
       case measure => have := HK1.out; omega
       case rel => exact ⟨(wrap64 (x7_1 + 1)), (by first | rfl | (simp; done) | (simp [*]; done)), H', ⟨by have := HK1.out; omega⟩, by repeat (first | exact Drawn0.refl _ | apply Drawn0.step)⟩
     ·
      rw [if_neg c4] at H
      exact absurd H (by simp)
    ·
     rw [if_neg c3] at H
     exact absurd H (by simp)
   ·
    rw [if_neg c2] at H
    have c2b0 : decide (x7_1 < (l0.length : Int)) = false := decide_eq_false c2
    clear c2
    obtain rfl := Option.some.inj H
    go_wp2
    go_ret
    exact ⟨by first | rfl | (simp; done) | (simp [*]; done), by repeat (first | exact Drawn0.refl _ | apply Drawn0.step)⟩
end Go.Proofs.Ytalfniohakahlaa.X
end
section
namespace Go.Proofs.Ytalfniohakahlaa.X
open Go.RowKit Go.Proofs.YtalfniohakahlaaW.PrintWords Go.Proofs.YtalfniohakahlaaW.PrintLast Go.Proofs.YtalfniohakahlaaW.PrintMore Go.Proofs.Ytalfniohakahlaa.Ma
set_option linter.unusedVariables false
theorem Few5_loop (ls : List (List Int)) (hn : ls.length ≤ 1000000000) : ∀ (d i : Nat), i + d = ls.length → Ev (fun k => sconcelaw05_Few.l0 k ls (ls.length : Int) (i : Int)) (fewB 40 (ls.drop i)) := by
  intro d
  induction d with
  | zero =>
    intro i hi
    refine Ev.step (fun k => by rw [sconcelaw05_Few.l0]) (ev_neg (by omega) (ev_const ?_))
    rw [List.drop_of_length_le (by omega)]; rfl
  | succ d ih =>
    intro i hi
    refine Ev.step (fun k => by rw [sconcelaw05_Few.l0, w64_succ (by omega), rdLI]) ?_
    refine ev_pos (by omega) (ev_pos (by omega) (ev_pos (by omega) ?_))
    rw [few_step (show i < ls.length by omega)]
    by_cases h : ((ls.getD i []).length : Int) > 40
    · refine ev_pos h (ev_const ?_)
      rw [show decide ((ls.getD i []).length ≤ 40) = false from decide_eq_false (by omega)]; rfl
    · refine ev_neg h ?_
      rw [show decide ((ls.getD i []).length ≤ 40) = true from decide_eq_true (by omega), Bool.true_and]
      exact ih (i + 1) (by omega)
theorem sp_Few5 (ls : List (List Int)) (hn : ls.length ≤ 1000000000) : Ev (fun k => sconcelaw05_Few.f k ls) (fewB 40 ls) := by
  unfold sconcelaw05_Few.f
  exact Few5_loop ls hn ls.length 0 (by omega)
theorem blen_mul {x y m n : Nat} (hx : blen x ≤ m) (hy : blen y ≤ n) : blen (x * y) ≤ m + n := blen_le (by
  rw [Nat.pow_add]
  have h1 := Nat.lt_of_lt_of_le (blen_lt x) (Nat.pow_le_pow_right (show 0 < 4294967296 by decide) hx)
  have h2 := Nat.lt_of_lt_of_le (blen_lt y) (Nat.pow_le_pow_right (show 0 < 4294967296 by decide) hy)
  exact Nat.mul_lt_mul'' h1 h2)
theorem mx_max (a b : Int) : mx a b = max a b := by unfold mx; omega
end Go.Proofs.Ytalfniohakahlaa.X
end
