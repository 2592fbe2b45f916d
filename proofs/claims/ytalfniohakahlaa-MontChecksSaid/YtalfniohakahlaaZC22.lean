/- Texts of the walk and of the plain laws, laid together by a program: Dg. -/
import Derived.ArgAppend
import Derived.Below
import Derived.BigQuiet
import Derived.Deep.AppendLies
import Derived.Deep.CutBlock
import Derived.Deep.DeepCutAuto
import Derived.Deep.Draws
import Derived.Deep.LoopGhost
import Derived.Deep.OwnRows
import Derived.Deep.QuietTactic
import Derived.Deep.RegionHeld3
import Derived.KernelRfl
import Derived.Laws.BitsAllLaws
import Derived.Laws.BitsLemmas
import Derived.Laws.BytesArg
import Derived.Laws.Externs
import Derived.Laws.IdiomCopy
import Derived.Laws.MakeOwn
import Derived.Laws.OwnMore
import Derived.Laws.Rows
import Derived.Laws.Slices
import Derived.Lib.AppendStr
import Derived.Lib.BitFns
import Derived.Lib.ConvBytes
import Derived.Lib.Hide
import Derived.Lib.Slices
import Derived.Lib.Small
import Derived.Lib.Strings
import Derived.Lib.Walk
import Derived.Maps.AppendAt
import Derived.OrdersHeld
import Derived.OwnWalk
import Derived.RowKit
import Derived.RowKit3
import Derived.Shelf.Spec.BitsCarry
import Derived.Tactics
import Derived.Test.YtalfniohakahlaaProg
import Derived.WalkKit
import Derived.WalkSmall
import Derived.WideLaws
import Derived.Test.YtalfniohakahlaaZC0
import Derived.Test.YtalfniohakahlaaZC1
import Derived.Test.YtalfniohakahlaaZC2
import Derived.Test.YtalfniohakahlaaZC5
import Derived.Test.YtalfniohakahlaaZC4
import Derived.Test.YtalfniohakahlaaZC6
import Derived.Test.YtalfniohakahlaaZC18
import Derived.Test.YtalfniohakahlaaZC21
namespace Go.Proofs.Ytalfniohakahlaa.X
open Go.RowKit Go.Proofs.YtalfniohakahlaaW.PrintWords Go.Proofs.YtalfniohakahlaaW.PrintLast Go.Proofs.YtalfniohakahlaaW.PrintMore Go.Proofs.Ytalfniohakahlaa.Ma
set_option linter.unusedVariables false
set_option linter.unusedSimpArgs false
theorem top_two {lu : List Int} (hd : dgH lu) {n : Nat} (hl : lu.length = n + 1) (hn : 0 < n) : nH lu / 4294967296 ^ (n - 1) = (at0 lu n).toNat * 4294967296 + (at0 lu (n - 1)).toNat := by
  have hlt := num_lt hd
  rw [hl] at hlt
  have e1 := at0_num (by decide) hd n
  have e2 := at0_num (by decide) hd (n - 1)
  rw [e1, e2, Int.toNat_natCast, Int.toNat_natCast]
  have h0 : nH lu / 4294967296 ^ n / 4294967296 = 0 := by rw [Nat.div_div_eq_div_mul, ← Nat.pow_succ]; exact Nat.div_eq_of_lt hlt
  have h1 : nH lu / 4294967296 ^ n = nH lu / 4294967296 ^ (n - 1) / 4294967296 := by rw [Nat.div_div_eq_div_mul, ← Nat.pow_succ]; congr 2; omega
  rw [h1] at h0 ⊢
  show nH lu / 4294967296 ^ (n - 1) = _
  generalize nH lu / 4294967296 ^ (n - 1) = z at *
  omega
theorem guess_ge {U V n : Nat} (hV : 0 < V / 4294967296 ^ n) : U / V ≤ (U / 4294967296 ^ n) / (V / 4294967296 ^ n) := by
  rw [Nat.le_div_iff_mul_le hV, Nat.le_div_iff_mul_le (Nat.pow_pos (by decide)), Nat.mul_assoc]
  exact Nat.le_trans (Nat.mul_le_mul_left _ (Nat.div_mul_le_self _ _)) (Nat.div_mul_le_self U V)
set_option maxHeartbeats 8000000 in
set_option maxRecDepth 100000 in
theorem ref_guess (g L cap j n c base : Nat) (ok : Nat → Prop) (xs : List Int) (AV : Option Addr) (cv : Nat) (V : Nat) (w : World)
    (hR : Kd.R (Kd.int .u32) 78 w base ok (.slice (some ⟨g, 0, none⟩) L cap) xs) (hjn : j + (n + 1) ≤ L) (hn0 : 0 < n) (hcu : n + 1 ≤ c) (hv : Kd.C (Kd.int .u32) w AV (big V).length (big V)) (hcv : (big V).length ≤ cv)
    (hd : dgH xs) (hn : n ≤ 100000) (hV : blen V = n) (h : nH ((xs.drop j).take (n + 1)) < V * 4294967296) :
    Calls Try.prog 103 #[.slice (some ⟨g, j, none⟩) (n + 1) c, .slice AV (big V).length cv] w fun e w' => e = .returned (.int .u32 ((nH ((xs.drop j).take (n + 1)) / V : Nat) : Int)) ∧ Kd.R (Kd.int .u32) 78 w' base ok (.slice (some ⟨g, 0, none⟩) L cap) (spl xs j (n + 1) (nH ((xs.drop j).take (n + 1)) % V)) ∧ w.grownBy w' (some g) := by
  have hL : L = xs.length := (Kd.R_reads' hR).1
  have hg := Kd.R_lt hR g rfl
  have hC := C_piece hR j (n + 1) hjn (by omega)
  obtain ⟨lu, hlu⟩ : ∃ lu, (xs.drop j).take (n + 1) = lu := ⟨_, rfl⟩
  have hll : lu.length = n + 1 := by rw [← hlu, List.length_take, List.length_drop]; omega
  have hdu : dgH lu := fun x hx => hd x (List.mem_of_mem_drop (List.mem_of_mem_take (hlu ▸ hx)))
  have HT := fun (W : World) (hR' : Kd.R (Kd.int .u32) 78 W base ok (.slice (some ⟨g, 0, none⟩) L cap) xs) (hv' : Kd.C (Kd.int .u32) W AV (big V).length (big V)) (q : Nat) (hq : q < 18446744073709551616) (h1 : V * q ≤ nH ((xs.drop j).take (n + 1))) => ref_take_yes g L cap j (n + 1) c base ok xs AV cv V q W hR' hjn (by omega) hcu hv' hcv hd (by omega) (by omega) hq h1
  rw [hlu] at h hC HT ⊢
  rw [← hll] at hC
  have HF := fun (W : World) (hu' : Kd.C (Kd.int .u32) W (some ⟨g, j, none⟩) lu.length lu) (hv' : Kd.C (Kd.int .u32) W AV (big V).length (big V)) (q : Nat) (hq : q < 18446744073709551616) (h1 : nH lu < V * q) => ref_take_no (some ⟨g, j, none⟩) c lu AV cv V q W hu' (by omega) hv' hcv hdu (by omega) (by omega) hq h1
  have hV0 : V ≠ 0 := fun e => by rw [e, blen_zero] at hV; omega
  have hvt : 0 < V / 4294967296 ^ (n - 1) := by
    have := blen_ge hV0; rw [hV] at this
    exact Nat.div_pos this (Nat.pow_pos (by decide))
  have htop := top_two hdu hll hn0
  have hge := guess_ge (U := nH lu) hvt
  have hUV : nH lu / V < 4294967296 := (Nat.div_lt_iff_lt_mul (Nat.pos_of_ne_zero hV0)).2 (by rw [Nat.mul_comm]; exact h)
  obtain ⟨ad1, f1, hx1⟩ := Kd.at_int hC ((n : Nat) : Int) (by omega) (by omega)
  obtain ⟨ad2, f2, hx2⟩ := Kd.at_int hC ((n - 1 : Nat) : Int) (by omega) (by omega)
  obtain ⟨ad3, f3, hx3⟩ := Kd.at_int hv ((n - 1 : Nat) : Int) (by omega) (by rw [big_length]; omega)
  have hvl : (big V).length = n := by rw [big_length, hV]
  rw [hvl] at hv hcv HT HF ⊢
  rw [hll] at hC HF
  cases f1
  cases f2
  have ea : ∀ i, (⟨g, j, none⟩ : Addr).add i = ⟨g, j + i, none⟩ := fun i => by unfold Addr.add; split <;> simp_all
  rw [Int.toNat_natCast, ea, rdA] at hx1 hx2
  rw [Int.toNat_natCast, rdA, at0_big] at hx3
  obtain ⟨x1, hX1⟩ : ∃ x : Nat, at0 lu n = (x : Int) := Int.eq_ofNat_of_zero_le (at0_dg (by decide) hdu n).1
  obtain ⟨x2, hX2⟩ : ∃ x : Nat, at0 lu (n - 1) = (x : Int) := Int.eq_ofNat_of_zero_le (at0_dg (by decide) hdu (n - 1)).1
  have hl1 := (at0_dg (by decide) hdu n).2
  have hl2 := (at0_dg (by decide) hdu (n - 1)).2
  rw [hX1] at hl1 hx1 htop
  rw [hX2] at hl2 hx2 htop
  rw [Int.toNat_natCast, Int.toNat_natCast] at htop
  have hvm : V / 4294967296 ^ (n - 1) % 4294967296 = V / 4294967296 ^ (n - 1) := Nat.mod_eq_of_lt ((Nat.div_lt_iff_lt_mul (Nat.pow_pos (by decide))).2 (by
    have := blen_lt V; rw [hV] at this
    rw [← Nat.pow_succ', Nat.succ_eq_add_one, show n - 1 + 1 = n by omega]; exact this))
  have hvl2 := Nat.mod_lt (V / 4294967296 ^ (n - 1)) (show 0 < 4294967296 by decide)
  rw [hvm] at hx3 hvl2
  rw [htop] at hge
  clear htop hvm
  generalize V / 4294967296 ^ (n - 1) = vt at *
  have hw1 : IntKind.i64.wrap ((n : Int) - 1) = ((n - 1 : Nat) : Int) := by rw [i64_w, w64 (by omega) (by omega)]; omega
  have htv : Go.bits .or .u64 (IntKind.u64.wrap (IntKind.u64.wrap (x1 : Int) * 4294967296)) (IntKind.u64.wrap (x2 : Int)) = ((x1 * 4294967296 + x2 : Nat) : Int) := by
    have q2 : IntKind.u64.wrap (IntKind.u64.wrap (x1 : Int) * 4294967296) = ((x1 * 4294967296 : Nat) : Int) := by simp only [wU]; omega
    have q1 : IntKind.u64.wrap (x2 : Int) = (x2 : Int) := by rw [wU]; omega
    rw [q2, q1, b_or_add 32 (by omega) (by omega) (by omega) (by omega) (by simp) (by simp; omega)]; omega
  have htl : x1 * 4294967296 + x2 < 18446744073709551616 := by omega
  have htv2 : Go.bits .or .u64 ((x1 : Int) * 4294967296) (x2 : Int) = ((x1 * 4294967296 + x2 : Nat) : Int) := by
    rw [b_or_add 32 (by omega) (by omega) (by omega) (by omega) (by simp) (by simp; omega)]; omega
  generalize x1 * 4294967296 + x2 = top at *
  obtain ⟨q0, hq0⟩ : ∃ q0, top / vt = q0 := ⟨_, rfl⟩
  have hql : q0 ≤ top := hq0 ▸ Nat.div_le_self _ _
  have hvw : IntKind.u64.wrap (vt : Int) = (vt : Int) := by rw [wU]; omega
  have hvz : decide ((vt : Int) = 0) = false := decide_eq_false (by omega)
  have hqw : IntKind.u64.wrap (Int.tdiv (top : Int) (vt : Int)) = (q0 : Int) := by rw [Int.tdiv_eq_ediv_of_nonneg (by omega), ← Int.natCast_ediv, hq0, wU]; omega
  have hqw2 : IntKind.u64.wrap ((top : Int) / (vt : Int)) = (q0 : Int) := by rw [← Int.natCast_ediv, hq0, wU]; omega
  rw [hq0] at hge
  clear hq0
  subst f3
  have p1 : (0 : Int) ≤ (n : Int) := by omega
  have p2 : (0 : Int) ≤ ((n - 1 : Nat) : Int) := by omega
  have p3 : ((n - 1 : Nat) : Int) < (n : Int) := by omega
  have p4 : (n : Int) < ((n + 1 : Nat) : Int) := by omega
  have p5 : ((n - 1 : Nat) : Int) < ((n + 1 : Nat) : Int) := by omega
  have HR := Aside0.mk hR
  have HC := Aside0.mk hC
  have HV := Aside0.mk hv
  have HTA := Aside0.mk HT
  have HFA := Aside0.mk HF
  clear hR hC hv HT HF hlu hdu hd
  obtain ⟨Q, hQ⟩ : ∃ Q, nH lu / V = Q := ⟨_, rfl⟩
  obtain ⟨M, hM⟩ : ∃ M, nH lu % V = M := ⟨_, rfl⟩
  have hyes : ∀ q, Q ≤ q → V * q ≤ nH lu → q = Q ∧ nH lu - V * q = M := by
    intro q h1 h2
    have h3 : q ≤ Q := by rw [← hQ, Nat.le_div_iff_mul_le (Nat.pos_of_ne_zero hV0), Nat.mul_comm]; exact h2
    have h4 : q = Q := Nat.le_antisymm h3 h1
    refine ⟨h4, ?_⟩
    rw [h4, ← hQ, ← hM]
    have := Nat.div_add_mod (nH lu) V
    omega
  have hno : ∀ q, Q ≤ q → nH lu < V * q → Q < q := by
    intro q h1 h2
    rcases Nat.lt_or_ge Q q with h3 | h3
    · exact h3
    · exfalso
      have h4 : q = Q := Nat.le_antisymm h3 h1
      have := Nat.mul_div_le (nH lu) V
      rw [h4, ← hQ] at h2
      omega
  rw [hQ] at hge hUV ⊢
  rw [hM]
  clear hQ hM h hV0
  have HY := Aside0.mk hyes
  have HN := Aside0.mk hno
  clear hyes hno
  go_enter Try.func103, Try.ntmps103
  go_wp2
  go_quiet (fail)
  have HB0 := Aside0.mk (pw_below_drewN (Below.refl w.heap.size w) nq)
  by_cases hbig : 4294967295 < q0
  · have d1 : decide ((4294967295 : Int) < (q0 : Int)) = true := decide_eq_true (by omega)
    have d2 : decide ((q0 : Int) > 4294967295) = true := decide_eq_true (by omega)
    obtain ⟨qs, hqs⟩ : ∃ qs : Nat, qs = 4294967295 := ⟨_, rfl⟩
    have hqs1 : Q ≤ qs := by omega
    have hqs2 := Aside0.mk (show qs < 4294967296 by omega)
    have eqs := Aside0.mk (show (4294967295 : Int) = (qs : Int) by omega)
    clear hbig hqs hUV
    go_wp2
    clear d1 d2
    go_loopg [7] (qs - Q + 1) (fun m v7 wr => ∃ q : Nat, v7 = .int .u64 q ∧ q < Q + m ∧ Q ≤ q ∧ q ≤ qs ∧ Aside0 (Below w.heap.size w wr))
    case atStart => exact ⟨qs, by first | rfl | rw [eqs.out], by omega, hqs1, Nat.le_refl _, HB0⟩
    case round =>
      obtain ⟨q, rfl, hqm, hqQ, hqq, HB⟩ := hrel
      cases gk with
      | zero => omega
      | succ k1 =>
        rcases Nat.lt_or_ge (nH lu) (V * q) with hlt | hle
        · have hQq := HN.out q hqQ hlt
          have hqw3 : IntKind.u64.wrap ((q : Int) - 1) = ((q - 1 : Nat) : Int) := by rw [wU]; have := hqs2.out; omega
          go_wp2_with (go_at_call 115; refine (HFA.out _ (Kd.C_below HC.out HB.out) (Kd.C_below HV.out HB.out) q (by have := hqs2.out; omega) hlt).mono ?_; rintro e w5 ⟨rfl, hb⟩; have HB5 := Aside0.mk (below_then HB.out HB.out.size hb); clear hb)
          go_roundg k1
          case measure => omega
          case rel => exact ⟨q - 1, by go_num, by omega, by omega, by omega, HB5⟩
        · have HYQ := Aside0.mk (HY.out q hqQ hle)
          go_wp2_with (go_at_call 115; refine (HTA.out _ (Kd.R_below HR.out HB.out) (Kd.C_below HV.out HB.out) q (by have := hqs2.out; omega) hle).mono ?_; rintro e w5 ⟨rfl, hr5, hg5⟩)
          obtain ⟨hq1, hq2⟩ := HYQ.out
          have eqv : (q : Int) % 4294967296 = (Q : Int) := by have := hqs2.out; omega
          rw [hq2] at hr5
          clear hq1 hq2
          go_ret
          exact ⟨by rw [eqv]; rfl, hr5, grown_then (grown_of_below HB.out _) hg5⟩
  · have d1 : decide ((4294967295 : Int) < (q0 : Int)) = false := decide_eq_false (by omega)
    have d2 : decide ((q0 : Int) > 4294967295) = false := decide_eq_false (by omega)
    obtain ⟨qs, hqs⟩ : ∃ qs : Nat, qs = q0 := ⟨_, rfl⟩
    have hqs1 : Q ≤ qs := by omega
    have hqs2 := Aside0.mk (show qs < 4294967296 by omega)
    have eqs := Aside0.mk (show (q0 : Int) = (qs : Int) by omega)
    clear hbig hqs hUV
    go_wp2
    clear d1 d2
    go_loopg [7] (qs - Q + 1) (fun m v7 wr => ∃ q : Nat, v7 = .int .u64 q ∧ q < Q + m ∧ Q ≤ q ∧ q ≤ qs ∧ Aside0 (Below w.heap.size w wr))
    case atStart => exact ⟨qs, by first | rfl | rw [eqs.out], by omega, hqs1, Nat.le_refl _, HB0⟩
    case round =>
      obtain ⟨q, rfl, hqm, hqQ, hqq, HB⟩ := hrel
      cases gk with
      | zero => omega
      | succ k1 =>
        rcases Nat.lt_or_ge (nH lu) (V * q) with hlt | hle
        · have hQq := HN.out q hqQ hlt
          have hqw3 : IntKind.u64.wrap ((q : Int) - 1) = ((q - 1 : Nat) : Int) := by rw [wU]; have := hqs2.out; omega
          go_wp2_with (go_at_call 115; refine (HFA.out _ (Kd.C_below HC.out HB.out) (Kd.C_below HV.out HB.out) q (by have := hqs2.out; omega) hlt).mono ?_; rintro e w5 ⟨rfl, hb⟩; have HB5 := Aside0.mk (below_then HB.out HB.out.size hb); clear hb)
          go_roundg k1
          case measure => omega
          case rel => exact ⟨q - 1, by go_num, by omega, by omega, by omega, HB5⟩
        · have HYQ := Aside0.mk (HY.out q hqQ hle)
          go_wp2_with (go_at_call 115; refine (HTA.out _ (Kd.R_below HR.out HB.out) (Kd.C_below HV.out HB.out) q (by have := hqs2.out; omega) hle).mono ?_; rintro e w5 ⟨rfl, hr5, hg5⟩)
          obtain ⟨hq1, hq2⟩ := HYQ.out
          have eqv : (q : Int) % 4294967296 = (Q : Int) := by have := hqs2.out; omega
          rw [hq2] at hr5
          clear hq1 hq2
          go_ret
          exact ⟨by rw [eqv]; rfl, hr5, grown_then (grown_of_below HB.out _) hg5⟩
end Go.Proofs.Ytalfniohakahlaa.X
