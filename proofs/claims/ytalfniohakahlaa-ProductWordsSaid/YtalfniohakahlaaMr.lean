/- The references' number times a word: the walk. -/
import Derived.Test.YtalfniohakahlaaX0
import Derived.Test.YtalfniohakahlaaX3
import Derived.Test.YtalfniohakahlaaX4
import Derived.Test.YtalfniohakahlaaX5
import Derived.Test.YtalfniohakahlaaLb
import Derived.Test.YtalfniohakahlaaBt
import Derived.Test.YtalfniohakahlaaNu
import Derived.Test.YtalfniohakahlaaSp3
import Derived.Test.YtalfniohakahlaaSp4
import Derived.Test.YtalfniohakahlaaSp5a
import Derived.Test.YtalfniohakahlaaSp5b
import Derived.Test.YtalfniohakahlaaMk
import Derived.Deep.RegionLaw
namespace Go.Proofs.Ytalfniohakahlaa.X
open Go.RowKit Go.Proofs.YtalfniohakahlaaW.PrintWords Go.Proofs.YtalfniohakahlaaW.PrintLast Go.Proofs.YtalfniohakahlaaW.PrintMore Go.Proofs.Ytalfniohakahlaa.Ma
attribute [local go_sem] max2_int min2_int max_two min_two max_three min_three max_four min_four
set_option linter.unusedVariables false
set_option linter.unusedSimpArgs false
theorem cut_full {P : Program} (t e : TypeId) {i : TypeInfo} (ht : P.underlying t = some (.slice e)) (hi : P.info? e = some i) (A : Option Addr) (n c m : Nat) (hm : m ≤ c) :
    ∀ W : World, (Instr.slice t (.slice A n c) none (some (.int .i64 (m : Int))) (some (.int .i64 (m : Int)))).run P W = .ok (.slice A m m) W := by
  intro W
  have hel : P.elem t = e := by simp [Program.elem, ht]
  have hu : P.underlying t = some (.slice (P.elem t)) := by rw [hel]; exact ht
  have ha : (A.map fun x => x.add 0) = A := by cases A <;> simp [Addr.add]
  have h1 : (Instr.slice t (.slice A n c) none (some (.int .i64 (m : Int))) (some (.int .i64 (m : Int)))).run P W = ((sizeOf (P.elem t)).run P W).andThen fun s w => .ok (sliced A 0 m m s) w := by
    simp [Instr.slice, run_underlying hu, Instr.sliceBounds, run_sliceBound, sliced, hm]
  rw [h1, hel]
  simp [sizeOf, typeInfo, hi, sliced, Result.andThen, ha]
set_option maxHeartbeats 2000000 in
set_option maxRecDepth 100000 in
theorem ref_MulWord_ok (A0 : Option Addr) (c0 : Nat) (l0 : List Int) (x : Nat) (A2 : Option Addr) (c2 : Nat) (l2 : List Int) (w : World) (hr0 : Kd.C (Kd.int .u64) w A0 l0.length l0) (hc0 : l0.length ≤ c0) (hr2 : Kd.C (Kd.int .u64) w A2 l2.length l2) (hc2 : l2.length ≤ c2)
    (h0 : Wd l0) (h2 : Wd l2) (hx : x < 18446744073709551616) (hl0 : l0.length ≤ 300) (hl2 : l2.length ≤ 300) :
    Calls Try.prog 26 #[.slice A0 l0.length c0, .int .u64 (x : Int), .slice A2 l2.length c2] w fun e w' => ∃ v : Value, e = .returned (.tuple #[v, .int .u64 (((nW l0 * x + nW l2) / 18446744073709551616 ^ (max l0.length l2.length) : Nat) : Int)]) ∧
      Kd.V (Kd.int .u64) 37 w' w.heap.size (fun k_ => w.heap.size ≤ k_) v (wds (max l0.length l2.length) (nW l0 * x + nW l2)) ∧ Below w.heap.size w w' := by
  have b0 := blen_nW h0
  have b2 := blen_nW h2
  have bx : blen x ≤ 2 := blen_le (by omega)
  have bm := blen_mul b0 bx
  have bs := blen_add (n := 602) (x := nW l0 * x) (y := nW l2) (by omega) (by omega)
  obtain ⟨n, hn⟩ : ∃ n : Nat, n = max l0.length l2.length := ⟨_, rfl⟩
  obtain ⟨k1, hk1⟩ := sp_OfW h0 (by omega)
  obtain ⟨k2, hk2⟩ := sp_Small hx
  obtain ⟨k3, hk3⟩ := sp_ref_Mul (a := nW l0) (b := x) (by omega) (by omega)
  obtain ⟨k4, hk4⟩ := sp_OfW h2 (by omega)
  obtain ⟨k5, hk5⟩ := sp_Add (x := nW l0 * x) (y := nW l2) (by omega) (by omega)
  obtain ⟨k6, hk6⟩ := sp_Nat (x := nW l0 * x + nW l2) (n := ((n + 1 : Nat) : Int)) (by omega)
  rw [Int.toNat_natCast] at hk6
  have hlt : nW l0 * x + nW l2 < 18446744073709551616 ^ (n + 1) := by
    have ha := nW_lt' h0 (show l0.length ≤ n by omega)
    have hb := nW_lt' h2 (show l2.length ≤ n by omega)
    rw [Nat.pow_succ]
    generalize 18446744073709551616 ^ n = P at *
    have h3 : nW l0 * x ≤ (P - 1) * x := Nat.mul_le_mul_right _ (by omega)
    have h4 : (P - 1) * x ≤ (P - 1) * 18446744073709551615 := Nat.mul_le_mul_left _ (by omega)
    omega
  have hq : (nW l0 * x + nW l2) / 18446744073709551616 ^ n % 18446744073709551616 = (nW l0 * x + nW l2) / 18446744073709551616 ^ n := Nat.mod_eq_of_lt ((Nat.div_lt_iff_lt_mul (Nat.pow_pos (by decide))).2 (by rw [← Nat.pow_succ']; exact hlt))
  have hat := at0_dgs (B := 18446744073709551616) (n := n + 1) (i := n) (nW l0 * x + nW l2) (by omega)
  rw [hq] at hat
  have htk : (dgs 18446744073709551616 (n + 1) (nW l0 * x + nW l2)).take n = wds n (nW l0 * x + nW l2) := by
    show (dgs _ _ _).take n = dgs _ _ _
    rw [dgs_snoc, List.take_left' (dgs_length _ _ _)]
  rw [← hn]
  have hmx : (if l0.length < l2.length then (l2.length : Int) else (l0.length : Int)) = (n : Int) := by split <;> omega
  have L1 : sconceref05_long.f l0 = some false := by unfold sconceref05_long.f; rw [decide_eq_false (by omega)]
  have L2 : sconceref05_long.f l2 = some false := by unfold sconceref05_long.f; rw [decide_eq_false (by omega)]
  have S1 := Aside0.mk (hk1 k1 (Nat.le_refl _))
  have S2 := Aside0.mk (hk2 k2 (Nat.le_refl _))
  have S3 := Aside0.mk (hk3 k3 (Nat.le_refl _))
  have S4 := Aside0.mk (hk4 k4 (Nat.le_refl _))
  have S5 := Aside0.mk (hk5 k5 (Nat.le_refl _))
  have S6 := Aside0.mk (hk6 k6 (Nat.le_refl _))
  obtain ⟨lx, hlx⟩ : ∃ l : List Int, l = dgs 18446744073709551616 (n + 1) (nW l0 * x + nW l2) := ⟨_, rfl⟩
  rw [← hlx] at S6 htk
  have hll : lx.length = n + 1 := by rw [hlx, dgs_length]
  have hat2 : at0 lx n = (((nW l0 * x + nW l2) / 18446744073709551616 ^ n : Nat) : Int) := by rw [hlx]; exact hat
  rw [← htk, ← hat2]
  obtain ⟨B0, hB0⟩ : ∃ b, b = nW l0 := ⟨_, rfl⟩
  obtain ⟨B2, hB2⟩ : ∃ b, b = nW l2 := ⟨_, rfl⟩
  obtain ⟨B3, hB3⟩ : ∃ b, b = nW l0 * x := ⟨_, rfl⟩
  obtain ⟨B5, hB5⟩ : ∃ b, b = nW l0 * x + nW l2 := ⟨_, rfl⟩
  rw [← hB5] at S5 S6
  rw [← hB3] at S3 S5
  rw [← hB0] at S1 S3
  rw [← hB2] at S4 S5
  have H0 := Aside0.mk hr0
  have H2 := Aside0.mk hr2
  have LL1 := Aside0.mk L1
  have LL2 := Aside0.mk L2
  have HLL := Aside0.mk hll
  have hn3 : n ≤ 300 := by omega
  have p5 : IntKind.i64.wrap ((n : Int) + 1) = ((n + 1 : Nat) : Int) := by rw [i64_w, w64 (by omega) (by omega)]; omega
  obtain ⟨n1, hn1⟩ : ∃ n1 : Nat, n1 = n + 1 := ⟨_, rfl⟩
  rw [← hn1] at p5 S6
  have HN1 := Aside0.mk hn1
  clear b0 b2 bx bm bs hn hk1 hk2 hk3 hk4 hk5 hk6 hlt hq hat htk L1 L2 hlx hat2 hB0 hB2 hB3 hB5 hr0 hr2 h0 h2 hll hn1
  go_enter Try.func26, Try.ntmps26
  go_upto_region 6 with (first
    | ((with_reducible refine gate_callee (f := 49) rfl ?_); refine goesL_ (some 12) rfl rfl Try.func49 (by kernel_rfl) rfl #[.slice A0 l0.length c0] rfl (by (try simp only [List.map_toArray, List.map_cons, List.map_nil]); first | done | rfl) ?_; (with_reducible refine (sconceref05_long.calls _ _ l0 _ _ H0.out hc0 LL1.out).mono ?_); rintro e w1 ⟨rfl, ⟨nd1, rfl⟩⟩; refine ⟨_, rfl, ?_⟩)
    | ((with_reducible refine gate_dst (N := 15) rfl ?_); (refine gate_guard (by rfl) ?_; dsimp only); refine goesL_ (some 15) rfl rfl Try.func49 (by kernel_rfl) rfl #[.slice A2 l2.length c2] rfl (by (try simp only [List.map_toArray, List.map_cons, List.map_nil]); first | done | rfl) ?_; (with_reducible refine (sconceref05_long.calls _ _ l2 _ _ (Kd.C_below H2.out (pw_below_drewN (Below.refl _ _) nd1)) hc2 LL2.out).mono ?_); rintro e w1 ⟨rfl, ⟨nd2, rfl⟩⟩; refine ⟨_, rfl, ?_⟩)
    | (go_at_call 21; (with_reducible refine (sconceref03_Of.calls k1 _ _ l0 _ _ (Kd.C_below H0.out (pw_below_drewN (Below.refl w.heap.size w) (nd1 + nd2))) hc0 S1.out).mono ?_); rintro e w3 ⟨v3, rfl, ho3, hb3⟩; obtain ⟨A3', c3', e3'⟩ := Kd.V_slice ho3; subst e3'; have HO3 := Aside0.mk (Kd.V_reads' ho3).2.2; have HC3 := Aside0.mk (Kd.V_reads' ho3).2.1; have HB3 := Aside0.mk (below_then (pw_below_drewN (Below.refl w.heap.size w) (nd1 + nd2)) (Nat.le_refl _) hb3); clear ho3 hb3)
    | (go_at_call 55; (with_reducible refine (sconceref03_Small.calls k2 _ _ _ S2.out).mono ?_); rintro e w4 ⟨v4, rfl, ho4, hb4⟩; obtain ⟨A4', c4', e4'⟩ := Kd.V_slice ho4; subst e4'; have HO4 := Aside0.mk (Kd.V_reads' ho4).2.2; have HC4 := Aside0.mk (Kd.V_reads' ho4).2.1; have HB4 := Aside0.mk hb4; clear ho4 hb4)
    | (go_at_call 51; (with_reducible refine (sconceref03_Mul.calls k3 _ _ (big B0) _ _ (big x) _ _ (Kd.C_below HO3.out HB4.out) HC3.out HO4.out HC4.out S3.out).mono ?_); rintro e w5 ⟨v5, rfl, ho5, hb5⟩; obtain ⟨A5', c5', e5'⟩ := Kd.V_slice ho5; subst e5'; have HO5 := Aside0.mk (Kd.V_reads' ho5).2.2; have HC5 := Aside0.mk (Kd.V_reads' ho5).2.1; have HB5 := Aside0.mk hb5; clear ho5 hb5)
    | (go_at_call 21; (with_reducible refine (sconceref03_Of.calls k4 _ _ l2 _ _ (Kd.C_below H2.out (below_then HB3.out HB3.out.size (below_then HB4.out HB4.out.size HB5.out))) hc2 S4.out).mono ?_); rintro e w6 ⟨v6, rfl, ho6, hb6⟩; obtain ⟨A6', c6', e6'⟩ := Kd.V_slice ho6; subst e6'; have HO6 := Aside0.mk (Kd.V_reads' ho6).2.2; have HC6 := Aside0.mk (Kd.V_reads' ho6).2.1; have HB6 := Aside0.mk hb6; clear ho6 hb6)
    | (go_at_call 22; (with_reducible refine (sconceref03_Add.calls k5 _ _ (big B3) _ _ (big B2) _ _ (Kd.C_below HO5.out HB6.out) HC5.out HO6.out HC6.out S5.out).mono ?_); rintro e w7 ⟨v7, rfl, ho7, hb7⟩; obtain ⟨A7', c7', e7'⟩ := Kd.V_slice ho7; subst e7'; have HO7 := Aside0.mk (Kd.V_reads' ho7).2.2; have HC7 := Aside0.mk (Kd.V_reads' ho7).2.1; have HB7 := Aside0.mk hb7; clear ho7 hb7)
    | (go_at_call 50; (with_reducible refine (sconceref03_Nat.calls k6 _ _ (big B5) (n1 : Int) _ _ HO7.out HC7.out S6.out).mono ?_); rintro e w8 ⟨v8, rfl, ho8, hb8⟩; obtain ⟨g8, c8, e8, _⟩ := Kd.R_form ho8 (by rw [HLL.out]; omega); subst e8; have HO8 := Aside0.mk ho8; have HB8 := Aside0.mk hb8; clear ho8 hb8))
  have hll := HLL.out
  have hc8 : lx.length ≤ c8 := (Kd.R_reads' HO8.out).2.1
  obtain ⟨hx8, _⟩ := Kd.R_celln 0 HO8.out (n : Int) (by omega) (by omega)
  rw [Int.toNat_natCast] at hx8
  have hx9 : w8.cell? ⟨g8, n, none⟩ = some (.int .u64 (at0 lx n)) := by
    rw [hx8]
    show some (Value.int .u64 (rdOf 0 _ _)) = _
    unfold rdOf at0
    rw [Int.toNat_natCast]
  obtain ⟨i0, hi0, _⟩ := info_parts info_u64
  have hcut := cut_full (P := Try.prog) 23 37 Try.underlying23 hi0 (some ⟨g8, 0, none⟩) lx.length c8 n (by omega)
  have q1 : (0 : Int) ≤ (n : Int) := by omega
  have q2 : (n : Int) < (lx.length : Int) := by omega
  have HT := Aside0.mk (Kd.R_take (m := n) HO8.out (by omega))
  have HBA := Aside0.mk (below_then HB3.out HB3.out.size (below_then HB4.out HB4.out.size (below_then HB5.out HB5.out.size (below_then HB6.out HB6.out.size (below_then HB7.out HB7.out.size HB8.out)))))
  have hlt2 : (lx.take n).length = n := by rw [List.length_take]; omega
  have HLT := Aside0.mk hlt2
  have HSZ := Aside0.mk (below_then HB3.out HB3.out.size (below_then HB4.out HB4.out.size (below_then HB5.out HB5.out.size (below_then HB6.out HB6.out.size HB7.out)))).size
  clear hx8 hi0 hll hlt2
  go_quiet (fail)
  go_wp2
  go_ret2
  refine ⟨_, rfl, ?_, pw_below_drewN HBA.out _⟩
  have hF := Kd.R_F (Kd.R_mono (Kd.R_bound (Kd.R_drewN HT.out nq)) (ok' := fun k_ => w.heap.size ≤ k_) (fun k hk => Nat.le_trans HSZ.out hk.2.1))
  refine ⟨some ⟨g8, 0, none⟩, n, by rw [HLT.out]; rfl, by rw [HLT.out]; exact Nat.le_refl _, ?_⟩
  rw [HLT.out]
  exact hF
set_option maxRecDepth 100000 in
theorem ref_MulWord_long1 (A0 : Option Addr) (c0 : Nat) (l0 : List Int) (x : Int) (A2 : Option Addr) (c2 : Nat) (l2 : List Int) (w : World) (hr0 : Kd.C (Kd.int .u64) w A0 l0.length l0) (hc0 : l0.length ≤ c0) (hr2 : Kd.C (Kd.int .u64) w A2 l2.length l2) (hc2 : l2.length ≤ c2)
    (hl : 300 < l0.length) :
    Calls Try.prog 26 #[.slice A0 l0.length c0, .int .u64 x, .slice A2 l2.length c2] w fun e w' => ∃ v : Value, e = .returned (.tuple #[v, .int .u64 0]) ∧
      Kd.V (Kd.int .u64) 37 w' w.heap.size (fun k_ => w.heap.size ≤ k_) v [] ∧ Below w.heap.size w w' := by
  have LL1 := Aside0.mk (show sconceref05_long.f l0 = some true by unfold sconceref05_long.f; rw [decide_eq_true (by omega)])
  have H0 := Aside0.mk hr0
  have H2 := Aside0.mk hr2
  clear hr0 hr2
  go_enter Try.func26, Try.ntmps26
  go_wp2_with (first
    | ((with_reducible refine gate_callee (f := 49) rfl ?_); refine goesL_ (some 12) rfl rfl Try.func49 (by kernel_rfl) rfl #[.slice A0 l0.length c0] rfl (by (try simp only [List.map_toArray, List.map_cons, List.map_nil]); first | done | rfl) ?_; (with_reducible refine (sconceref05_long.calls _ _ l0 _ _ H0.out hc0 LL1.out).mono ?_); rintro e w1 ⟨rfl, ⟨nd1, rfl⟩⟩; refine ⟨_, rfl, ?_⟩))
  go_ret2
  exact ⟨_, rfl, Kd.V_nil _ _ _ _ _, pw_below_drewN (Below.refl _ _) _⟩
set_option maxRecDepth 100000 in
theorem ref_MulWord_long2 (A0 : Option Addr) (c0 : Nat) (l0 : List Int) (x : Int) (A2 : Option Addr) (c2 : Nat) (l2 : List Int) (w : World) (hr0 : Kd.C (Kd.int .u64) w A0 l0.length l0) (hc0 : l0.length ≤ c0) (hr2 : Kd.C (Kd.int .u64) w A2 l2.length l2) (hc2 : l2.length ≤ c2)
    (h0 : l0.length ≤ 300) (hl : 300 < l2.length) :
    Calls Try.prog 26 #[.slice A0 l0.length c0, .int .u64 x, .slice A2 l2.length c2] w fun e w' => ∃ v : Value, e = .returned (.tuple #[v, .int .u64 0]) ∧
      Kd.V (Kd.int .u64) 37 w' w.heap.size (fun k_ => w.heap.size ≤ k_) v [] ∧ Below w.heap.size w w' := by
  have LL1 := Aside0.mk (show sconceref05_long.f l0 = some false by unfold sconceref05_long.f; rw [decide_eq_false (by omega)])
  have H0 := Aside0.mk hr0
  have H2 := Aside0.mk hr2
  have LL2 := Aside0.mk (show sconceref05_long.f l2 = some true by unfold sconceref05_long.f; rw [decide_eq_true (by omega)])
  clear hr0 hr2
  go_enter Try.func26, Try.ntmps26
  go_wp2_with (first
    | ((with_reducible refine gate_callee (f := 49) rfl ?_); refine goesL_ (some 12) rfl rfl Try.func49 (by kernel_rfl) rfl #[.slice A0 l0.length c0] rfl (by (try simp only [List.map_toArray, List.map_cons, List.map_nil]); first | done | rfl) ?_; (with_reducible refine (sconceref05_long.calls _ _ l0 _ _ H0.out hc0 LL1.out).mono ?_); rintro e w1 ⟨rfl, ⟨nd1, rfl⟩⟩; refine ⟨_, rfl, ?_⟩)
    | ((with_reducible refine gate_dst (N := 15) rfl ?_); (refine gate_guard (by rfl) ?_; dsimp only); refine goesL_ (some 15) rfl rfl Try.func49 (by kernel_rfl) rfl #[.slice A2 l2.length c2] rfl (by (try simp only [List.map_toArray, List.map_cons, List.map_nil]); first | done | rfl) ?_; (with_reducible refine (sconceref05_long.calls _ _ l2 _ _ (Kd.C_below H2.out (pw_below_drewN (Below.refl _ _) nd1)) hc2 LL2.out).mono ?_); rintro e w1 ⟨rfl, ⟨nd2, rfl⟩⟩; refine ⟨_, rfl, ?_⟩))
  go_ret2
  exact ⟨_, rfl, Kd.V_nil _ _ _ _ _, pw_below_drewN (Below.refl _ _) _⟩
end Go.Proofs.Ytalfniohakahlaa.X
