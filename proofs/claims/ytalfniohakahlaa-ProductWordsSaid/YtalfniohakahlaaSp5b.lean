/- Layer 5, the program's product; the references' answers. -/
import Derived.Test.YtalfniohakahlaaX0
import Derived.Test.YtalfniohakahlaaX2
import Derived.Test.YtalfniohakahlaaX4
import Derived.Test.YtalfniohakahlaaX11
import Derived.Test.YtalfniohakahlaaX13
import Derived.Test.YtalfniohakahlaaBt
import Derived.Test.YtalfniohakahlaaNu
import Derived.Test.YtalfniohakahlaaSp1
import Derived.Test.YtalfniohakahlaaSp3
import Derived.Test.YtalfniohakahlaaSp4
import Derived.Test.YtalfniohakahlaaSp5a
import Derived.Test.YtalfniohakahlaaNa
namespace Go.Proofs.Ytalfniohakahlaa.X
open Go.RowKit Go.Proofs.YtalfniohakahlaaW.PrintWords Go.Proofs.YtalfniohakahlaaW.PrintLast Go.Proofs.YtalfniohakahlaaW.PrintMore Go.Proofs.Ytalfniohakahlaa.Ma
set_option linter.unusedVariables false
theorem Few5_loop (ls : List (List Int)) (hn : ls.length ≤ 1000000000) : ∀ (d i : Nat), i + d = ls.length → Ev (fun k => sconcelaw05_Few.l0 k ls (ls.length : Int) (i : Int)) (fewB 40 (ls.drop i)) := by
  intro d
  induction d with
  | zero =>
    intro i hi
    refine Ev.step (fun k => by rw [sconcelaw05_Few.l0]) (ev_neg (by omega) (ev_const ?_))
    rw [List.drop_of_length_le (by omega)]; rfl
  | succ d ih =>
    intro i hi
    refine Ev.step (fun k => by rw [sconcelaw05_Few.l0, w64_succ (by omega), rdLI]) ?_
    refine ev_pos (by omega) (ev_pos (by omega) (ev_pos (by omega) ?_))
    rw [few_step (show i < ls.length by omega)]
    by_cases h : ((ls.getD i []).length : Int) > 40
    · refine ev_pos h (ev_const ?_)
      rw [show decide ((ls.getD i []).length ≤ 40) = false from decide_eq_false (by omega)]; rfl
    · refine ev_neg h ?_
      rw [show decide ((ls.getD i []).length ≤ 40) = true from decide_eq_true (by omega), Bool.true_and]
      exact ih (i + 1) (by omega)
theorem sp_Few5 (ls : List (List Int)) (hn : ls.length ≤ 1000000000) : Ev (fun k => sconcelaw05_Few.f k ls) (fewB 40 ls) := by
  unfold sconcelaw05_Few.f
  exact Few5_loop ls hn ls.length 0 (by omega)
theorem few1 (n : Nat) (a : List Int) : fewB n [a] = decide (a.length ≤ n) := by simp [fewB]
theorem few2 (n : Nat) (a b : List Int) : fewB n [a, b] = (decide (a.length ≤ n) && decide (b.length ≤ n)) := by simp [fewB]
theorem few3 (n : Nat) (a b c : List Int) : fewB n [a, b, c] = (decide (a.length ≤ n) && (decide (b.length ≤ n) && decide (c.length ≤ n))) := by simp [fewB]
theorem sp_huge (l : List Int) : sconcelaw05_huge.f l = some (decide (300 < l.length ∧ l.length ≤ 310)) := by
  unfold sconcelaw05_huge.f
  by_cases h : (l.length : Int) > 300
  · rw [if_pos h]; congr 1; rw [Bool.eq_iff_iff]; simp; omega
  · rw [if_neg h]; congr 1; symm; simp; omega
/-- The inner loop of the program's product. -/
theorem mul_inner {a b : List Int} (ha : Wd a) (hb : Wd b) (la : a.length ≤ 1000000) (lb : b.length ≤ 1000000) (i : Nat) (hi : i < a.length)
    (r : List Int)
    (hK : ∀ out : List Int, out.length = a.length + b.length → Wd out → (∀ t, i + 1 + b.length ≤ t → at0 out t = 0) → nW out = (nW a % 18446744073709551616 ^ (i + 1)) * nW b → Ev (fun k => product_Mul.l0 k a b out (a.length : Int) ((i + 1 : Nat) : Int)) r) :
    ∀ (d j c : Nat) (out : List Int), j + d = b.length → out.length = a.length + b.length → Wd out → (∀ t, i + b.length ≤ t → at0 out t = 0) → c < 18446744073709551616 →
      nW out + c * 18446744073709551616 ^ (i + j) = (nW a % 18446744073709551616 ^ i) * nW b + (nW a / 18446744073709551616 ^ i % 18446744073709551616) * (nW b % 18446744073709551616 ^ j) * 18446744073709551616 ^ i →
      Ev (fun k => product_Mul.l1 k a b out (i : Int) (c : Int) (a.length : Int) (i : Int) (b.length : Int) (j : Int)) r := by
  intro d
  induction d with
  | zero =>
    intro j c out hj hl hdg hz hc h
    have hjb : j = b.length := by clear h hK; omega
    subst hjb
    have hbm : nW b % 18446744073709551616 ^ b.length = nW b := Nat.mod_eq_of_lt (nW_lt hb)
    rw [hbm] at h
    replace h := Aside0.mk h
    clear hbm
    have hlt : i + b.length < out.length := by omega
    have e1 : wrap64 ((i : Int) + (b.length : Int)) = ((i + b.length : Nat) : Int) := by rw [w64 (by omega) (by omega)]; omega
    refine Ev.step (fun k => product_Mul.l1.eq_2 ..) (ev_neg (by omega) ?_)
    rw [e1, w64_succ (i := i) (by omega)]
    refine ev_pos (by omega) (ev_pos (by omega) ?_)
    rw [Int.toNat_natCast]
    have hs := num_set (B := 18446744073709551616) (c : Int) hlt
    rw [hz _ (Nat.le_refl _)] at hs
    simp only [Int.toNat_natCast, Int.toNat_zero, Nat.zero_mul, Nat.add_zero] at hs
    exact hK (out.set (i + b.length) (c : Int)) (by rw [List.length_set]; exact hl) (dg_set hdg ⟨by omega, by omega⟩ _) (fun t ht => by rw [at0_set hlt, if_neg (by omega), hz t (by omega)]) (by
      rw [nW, hs]; rw [show num 18446744073709551616 out = nW out from rfl, h.out, Nat.pow_succ, Nat.mod_mul, Nat.add_mul]; congr 1; ac_rfl)
  | succ d ih =>
    intro j c out hj hl hdg hz hc h
    replace h := Aside0.mk h
    have hjb : j < b.length := by omega
    have hlt : i + j < out.length := by omega
    have e1 : wrap64 ((i : Int) + (j : Int)) = ((i + j : Nat) : Int) := by rw [w64 (by omega) (by omega)]; omega
    refine Ev.step (fun k => product_Mul.l1.eq_2 ..) (ev_pos (by omega) (ev_pos (by omega) (ev_pos (by omega) (ev_pos (by omega) (ev_pos (by omega) ?_)))))
    rw [e1, w64_succ (i := j) (by omega)]
    refine ev_pos (by omega) (ev_pos (by omega) ?_)
    rw [Int.toNat_natCast, rdA, rdA, rdA, at0_nW ha, at0_nW hb]
    have ho := at0_dg (by decide) hdg (i + j)
    have hx := Nat.mod_lt (nW a / 18446744073709551616 ^ i) (show 0 < 18446744073709551616 by decide)
    have hy := Nat.mod_lt (nW b / 18446744073709551616 ^ j) (show 0 < 18446744073709551616 by decide)
    have hst := mul_step (b := b) h.out hlt
    clear h
    replace hst := Aside0.mk hst
    have eN : num 18446744073709551616 b = nW b := rfl
    rw [eN] at hst
    generalize hX : nW a / 18446744073709551616 ^ i % 18446744073709551616 = x at *
    generalize hY : nW b / 18446744073709551616 ^ j % 18446744073709551616 = y at *
    obtain ⟨o, hO⟩ : ∃ o : Nat, at0 out (i + j) = (o : Int) := Int.eq_ofNat_of_zero_le ho.1
    rw [hO] at hst ho ⊢
    rw [Int.toNat_natCast] at hst
    rw [sp_word_Mul (wd_iff.2 ⟨by omega, by omega⟩) (wd_iff.2 ⟨by omega, by omega⟩) (wd_iff.2 ⟨by omega, by omega⟩) (wd_iff.2 ⟨by omega, by omega⟩)]
    have hxy : x * y ≤ 18446744073709551615 * 18446744073709551615 := Nat.mul_le_mul (by omega) (by omega)
    have e2 : ((x : Int) * (y : Int) + (o : Int) + (c : Int)) = ((x * y + o + c : Nat) : Int) := by rw [Int.natCast_add, Int.natCast_add, Int.natCast_mul]
    refine ev_bind0 rfl ?_
    simp only [e2]
    generalize hT : x * y + o + c = T at *
    have hTb : T < 18446744073709551616 * 18446744073709551616 := by generalize x * y = p at *; omega
    have e3 : (T : Int) % 18446744073709551616 = ((T % 18446744073709551616 : Nat) : Int) := by omega
    have e4 : (T : Int) / 18446744073709551616 = ((T / 18446744073709551616 : Nat) : Int) := by omega
    rw [e3, e4]
    exact ih (j + 1) (T / 18446744073709551616) (out.set (i + j) ((T % 18446744073709551616 : Nat) : Int)) (by omega) (by rw [List.length_set]; exact hl) (dg_set hdg ⟨by omega, by omega⟩ _) (zero_set hlt (by omega) _ hz) (by omega) hst.out
theorem mul_outer {a b : List Int} (ha : Wd a) (hb : Wd b) (la : a.length ≤ 1000000) (lb : b.length ≤ 1000000) : ∀ (d i : Nat) (out : List Int), i + d = a.length → out.length = a.length + b.length → Wd out →
    (∀ t, i + b.length ≤ t → at0 out t = 0) → nW out = (nW a % 18446744073709551616 ^ i) * nW b →
    Ev (fun k => product_Mul.l0 k a b out (a.length : Int) (i : Int)) (wds (a.length + b.length) (nW a * nW b)) := by
  intro d
  induction d with
  | zero =>
    intro i out hi hl hdg hz h
    refine Ev.step (fun k => product_Mul.l0.eq_2 ..) (ev_neg (by omega) (ev_const ?_))
    congr 1
    rw [show i = a.length by omega, Nat.mod_eq_of_lt (nW_lt ha)] at h
    rw [Wd_eq hdg, hl, h]
  | succ d ih =>
    intro i out hi hl hdg hz h
    refine Ev.step (fun k => product_Mul.l0.eq_2 ..) (ev_pos (by omega) (ev_bind0 rfl ?_))
    exact mul_inner ha hb la lb i (by omega) _ (fun out' q1 q2 q3 q4 => ih (i + 1) out' (by omega) q1 q2 q3 q4) b.length 0 0 out (by omega) hl hdg hz (by decide) (by simp [h, Nat.mod_one])
theorem sp_product_Mul {a b : List Int} (ha : Wd a) (hb : Wd b) (la : a.length ≤ 300) (lb : b.length ≤ 300) : Ev (fun k => product_Mul.f k a b) (wds (a.length + b.length) (nW a * nW b)) := by
  unfold product_Mul.f
  refine ev_bind (sp_product_long [a, b] (by simp)) ?_
  rw [few2, decide_eq_true la, decide_eq_true lb]
  refine ev_neg (by decide) ?_
  have e1 : wrap64 ((a.length : Int) + (b.length : Int)) = ((a.length + b.length : Nat) : Int) := by rw [w64 (by omega) (by omega)]; omega
  rw [e1]
  refine ev_pos (by omega) (ev_pos (by rw [Int.toNat_natCast]; omega) ?_)
  rw [Int.toNat_natCast]
  refine mul_outer ha hb (by omega) (by omega) a.length 0 _ (by omega) (List.length_replicate) ?_ ?_ ?_
  · intro x hx; rw [(List.mem_replicate.1 hx).2]; decide
  · intro t _
    unfold at0
    by_cases ht : t < a.length + b.length
    · simp [ht]
    · simp [ht]
  · rw [nW, num_replicate]; simp [Nat.mod_one]
theorem sp_product_Mul_long {a b : List Int} (h : 300 < a.length ∨ 300 < b.length) : Ev (fun k => product_Mul.f k a b) [] := by
  unfold product_Mul.f
  refine ev_bind (sp_product_long [a, b] (by simp)) ?_
  have : fewB 300 [a, b] = false := by rw [few2, Bool.and_eq_false_iff, decide_eq_false_iff_not, decide_eq_false_iff_not]; omega
  rw [this]
  exact ev_pos (by decide) (ev_const rfl)
theorem blen_mul {x y m n : Nat} (hx : blen x ≤ m) (hy : blen y ≤ n) : blen (x * y) ≤ m + n := blen_le (by
  rw [Nat.pow_add]
  have h1 := Nat.lt_of_lt_of_le (blen_lt x) (Nat.pow_le_pow_right (show 0 < 4294967296 by decide) hx)
  have h2 := Nat.lt_of_lt_of_le (blen_lt y) (Nat.pow_le_pow_right (show 0 < 4294967296 by decide) hy)
  exact Nat.mul_lt_mul'' h1 h2)
theorem sp_ref5_Mul {a b : List Int} (ha : Wd a) (hb : Wd b) (la : a.length ≤ 300) (lb : b.length ≤ 300) : Ev (fun k => sconceref05_Mul.f k a b) (wds (a.length + b.length) (nW a * nW b)) := by
  unfold sconceref05_Mul.f
  refine ev_bind0 (a := false) (by unfold sconceref05_long.f; congr 1; exact decide_eq_false (by omega)) (ev_neg (by decide) ?_)
  refine ev_bind0 (a := false) (by unfold sconceref05_long.f; congr 1; exact decide_eq_false (by omega)) ?_
  refine Ev.step (fun k => sconceref05_Mul.j0.eq_2 ..) (ev_neg (by decide) ?_)
  have h1 := blen_nW ha
  have h2 := blen_nW hb
  refine ev_bind (sp_OfW ha (by omega)) (ev_bind (sp_OfW hb (by omega)) (ev_bind (sp_ref_Mul (by omega) (by omega)) ?_))
  have e1 : wrap64 ((a.length : Int) + (b.length : Int)) = ((a.length + b.length : Nat) : Int) := by rw [w64 (by omega) (by omega)]; omega
  rw [e1]
  refine ev_bind (sp_Nat (by omega)) (ev_const ?_)
  rw [Int.toNat_natCast]
theorem sp_ref5_Mul_long {a b : List Int} (h : 300 < a.length ∨ 300 < b.length) : Ev (fun k => sconceref05_Mul.f k a b) [] := by
  unfold sconceref05_Mul.f
  by_cases h1 : 300 < a.length
  · refine ev_bind0 (a := true) (by unfold sconceref05_long.f; congr 1; exact decide_eq_true (by omega)) (ev_pos (by decide) ?_)
    exact Ev.step (fun k => sconceref05_Mul.j0.eq_2 ..) (ev_pos (by decide) (ev_const rfl))
  · refine ev_bind0 (a := false) (by unfold sconceref05_long.f; congr 1; exact decide_eq_false (by omega)) (ev_neg (by decide) ?_)
    refine ev_bind0 (a := true) (by unfold sconceref05_long.f; congr 1; exact decide_eq_true (by omega)) ?_
    exact Ev.step (fun k => sconceref05_Mul.j0.eq_2 ..) (ev_pos (by decide) (ev_const rfl))
theorem awake5 : Ev (fun k => sconcelaw05_awake.f k) true := Ev.of (fun k => sconcelaw05_awake.mono k) (k := 40) (by kernel_rfl)
theorem mx_max (a b : Int) : mx a b = max a b := by unfold mx; omega
theorem sp_Least {x : Nat} (hx : blen x ≤ 1000000) : Ev (fun k => sconceref03_Least.f k (big x)) (wds (max (wlen x) 1) x) := by
  unfold sconceref03_Least.f sconceref03_Words.f
  refine ev_bind0 rfl ?_
  have hw : wlen x = (blen x + 1) / 2 := by
    unfold wlen blen
    split <;> omega
  have e1 : wrap64 (Int.tdiv (wrap64 (((big x).length : Int) + 1)) 2) = (((blen x + 1) / 2 : Nat) : Int) := by
    rw [big_length, w64 (n := (blen x : Int) + 1) (by omega) (by omega), Int.tdiv_eq_ediv_of_nonneg (by omega), w64 (by omega) (by omega)]
    omega
  rw [e1, ← hw, mx_max]
  refine ev_bind (sp_Nat (x := x) (n := max ((wlen x : Nat) : Int) 1) (by omega)) (ev_const ?_)
  congr 2
  omega
end Go.Proofs.Ytalfniohakahlaa.X
