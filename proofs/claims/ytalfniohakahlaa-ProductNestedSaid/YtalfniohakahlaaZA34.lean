/- Texts of the walk and of the plain laws, laid together by a program: Sp5b. -/
import Derived.ArgAppend
import Derived.Below
import Derived.BigQuiet
import Derived.Deep.AppendLies
import Derived.Deep.CutBlock
import Derived.Deep.DeepCutAuto
import Derived.Deep.Draws
import Derived.Deep.LoopGhost
import Derived.Deep.OwnRows
import Derived.Deep.QuietTactic
import Derived.Deep.RegionHeld3
import Derived.Deep.RegionLaw
import Derived.Deep.RegionWith
import Derived.Defers
import Derived.KernelRfl
import Derived.Laws.BitsAllLaws
import Derived.Laws.BitsLemmas
import Derived.Laws.BytesArg
import Derived.Laws.Externs
import Derived.Laws.IdiomCopy
import Derived.Laws.MakeOwn
import Derived.Laws.OwnMore
import Derived.Laws.Rows
import Derived.Laws.Slices
import Derived.Lib.AppendStr
import Derived.Lib.BitFns
import Derived.Lib.ConvBytes
import Derived.Lib.Hide
import Derived.Lib.Slices
import Derived.Lib.Small
import Derived.Lib.Strings
import Derived.Lib.Walk
import Derived.Maps.AppendAt
import Derived.OrdersHeld
import Derived.OwnWalk
import Derived.Recover
import Derived.RowKit
import Derived.RowKit3
import Derived.Shelf.Spec.BitsCarry
import Derived.Tactics
import Derived.Test.YtalfniohakahlaaProg
import Derived.WalkKit
import Derived.WalkSmall
import Derived.WideLaws
import Derived.Test.YtalfniohakahlaaZA0
import Derived.Test.YtalfniohakahlaaZA1
import Derived.Test.YtalfniohakahlaaZA2
import Derived.Test.YtalfniohakahlaaZA5
import Derived.Test.YtalfniohakahlaaZA4
import Derived.Test.YtalfniohakahlaaZA6
import Derived.Test.YtalfniohakahlaaZA16
import Derived.Test.YtalfniohakahlaaZA17
import Derived.Test.YtalfniohakahlaaZA19
import Derived.Test.YtalfniohakahlaaZA20
import Derived.Test.YtalfniohakahlaaZA21
namespace Go.Proofs.Ytalfniohakahlaa.X
open Go.RowKit Go.Proofs.YtalfniohakahlaaW.PrintWords Go.Proofs.YtalfniohakahlaaW.PrintLast Go.Proofs.YtalfniohakahlaaW.PrintMore Go.Proofs.Ytalfniohakahlaa.Ma
set_option linter.unusedVariables false
theorem Few5_loop (ls : List (List Int)) (hn : ls.length ≤ 1000000000) : ∀ (d i : Nat), i + d = ls.length → Ev (fun k => sconcelaw05_Few.l0 k ls (ls.length : Int) (i : Int)) (fewB 40 (ls.drop i)) := by
  intro d
  induction d with
  | zero =>
    intro i hi
    refine Ev.step (fun k => by rw [sconcelaw05_Few.l0]) (ev_neg (by omega) (ev_const ?_))
    rw [List.drop_of_length_le (by omega)]; rfl
  | succ d ih =>
    intro i hi
    refine Ev.step (fun k => by rw [sconcelaw05_Few.l0, w64_succ (by omega), rdLI]) ?_
    refine ev_pos (by omega) (ev_pos (by omega) (ev_pos (by omega) ?_))
    rw [few_step (show i < ls.length by omega)]
    by_cases h : ((ls.getD i []).length : Int) > 40
    · refine ev_pos h (ev_const ?_)
      rw [show decide ((ls.getD i []).length ≤ 40) = false from decide_eq_false (by omega)]; rfl
    · refine ev_neg h ?_
      rw [show decide ((ls.getD i []).length ≤ 40) = true from decide_eq_true (by omega), Bool.true_and]
      exact ih (i + 1) (by omega)
theorem sp_Few5 (ls : List (List Int)) (hn : ls.length ≤ 1000000000) : Ev (fun k => sconcelaw05_Few.f k ls) (fewB 40 ls) := by
  unfold sconcelaw05_Few.f
  exact Few5_loop ls hn ls.length 0 (by omega)
theorem few1 (n : Nat) (a : List Int) : fewB n [a] = decide (a.length ≤ n) := by simp [fewB]
theorem few2 (n : Nat) (a b : List Int) : fewB n [a, b] = (decide (a.length ≤ n) && decide (b.length ≤ n)) := by simp [fewB]
theorem sp_huge (l : List Int) : sconcelaw05_huge.f l = some (decide (300 < l.length ∧ l.length ≤ 310)) := by
  unfold sconcelaw05_huge.f
  by_cases h : (l.length : Int) > 300
  · rw [if_pos h]; congr 1; rw [Bool.eq_iff_iff]; simp; omega
  · rw [if_neg h]; congr 1; symm; simp; omega
theorem mul_inner {a b : List Int} (ha : Wd a) (hb : Wd b) (la : a.length ≤ 1000000) (lb : b.length ≤ 1000000) (i : Nat) (hi : i < a.length)
    (r : List Int)
    (hK : ∀ out : List Int, out.length = a.length + b.length → Wd out → (∀ t, i + 1 + b.length ≤ t → at0 out t = 0) → nW out = (nW a % 18446744073709551616 ^ (i + 1)) * nW b → Ev (fun k => product_Mul.l0 k a b out (a.length : Int) ((i + 1 : Nat) : Int)) r) :
    ∀ (d j c : Nat) (out : List Int), j + d = b.length → out.length = a.length + b.length → Wd out → (∀ t, i + b.length ≤ t → at0 out t = 0) → c < 18446744073709551616 →
      nW out + c * 18446744073709551616 ^ (i + j) = (nW a % 18446744073709551616 ^ i) * nW b + (nW a / 18446744073709551616 ^ i % 18446744073709551616) * (nW b % 18446744073709551616 ^ j) * 18446744073709551616 ^ i →
      Ev (fun k => product_Mul.l1 k a b out (i : Int) (c : Int) (a.length : Int) (i : Int) (b.length : Int) (j : Int)) r := by
  intro d
  induction d with
  | zero =>
    intro j c out hj hl hdg hz hc h
    have hjb : j = b.length := by clear h hK; omega
    subst hjb
    have hbm : nW b % 18446744073709551616 ^ b.length = nW b := Nat.mod_eq_of_lt (nW_lt hb)
    rw [hbm] at h
    replace h := Aside0.mk h
    clear hbm
    have hlt : i + b.length < out.length := by omega
    have e1 : wrap64 ((i : Int) + (b.length : Int)) = ((i + b.length : Nat) : Int) := by rw [w64 (by omega) (by omega)]; omega
    refine Ev.step (fun k => product_Mul.l1.eq_2 ..) (ev_neg (by omega) ?_)
    rw [e1, w64_succ (i := i) (by omega)]
    refine ev_pos (by omega) (ev_pos (by omega) ?_)
    rw [Int.toNat_natCast]
    have hs := num_set (B := 18446744073709551616) (c : Int) hlt
    rw [hz _ (Nat.le_refl _)] at hs
    simp only [Int.toNat_natCast, Int.toNat_zero, Nat.zero_mul, Nat.add_zero] at hs
    exact hK (out.set (i + b.length) (c : Int)) (by rw [List.length_set]; exact hl) (dg_set hdg ⟨by omega, by omega⟩ _) (fun t ht => by rw [at0_set hlt, if_neg (by omega), hz t (by omega)]) (by
      rw [nW, hs]; rw [show num 18446744073709551616 out = nW out from rfl, h.out, Nat.pow_succ, Nat.mod_mul, Nat.add_mul]; congr 1; ac_rfl)
  | succ d ih =>
    intro j c out hj hl hdg hz hc h
    replace h := Aside0.mk h
    have hjb : j < b.length := by omega
    have hlt : i + j < out.length := by omega
    have e1 : wrap64 ((i : Int) + (j : Int)) = ((i + j : Nat) : Int) := by rw [w64 (by omega) (by omega)]; omega
    refine Ev.step (fun k => product_Mul.l1.eq_2 ..) (ev_pos (by omega) (ev_pos (by omega) (ev_pos (by omega) (ev_pos (by omega) (ev_pos (by omega) ?_)))))
    rw [e1, w64_succ (i := j) (by omega)]
    refine ev_pos (by omega) (ev_pos (by omega) ?_)
    rw [Int.toNat_natCast, rdA, rdA, rdA, at0_nW ha, at0_nW hb]
    have ho := at0_dg (by decide) hdg (i + j)
    have hx := Nat.mod_lt (nW a / 18446744073709551616 ^ i) (show 0 < 18446744073709551616 by decide)
    have hy := Nat.mod_lt (nW b / 18446744073709551616 ^ j) (show 0 < 18446744073709551616 by decide)
    have hst := mul_step (b := b) h.out hlt
    clear h
    replace hst := Aside0.mk hst
    have eN : num 18446744073709551616 b = nW b := rfl
    rw [eN] at hst
    generalize hX : nW a / 18446744073709551616 ^ i % 18446744073709551616 = x at *
    generalize hY : nW b / 18446744073709551616 ^ j % 18446744073709551616 = y at *
    obtain ⟨o, hO⟩ : ∃ o : Nat, at0 out (i + j) = (o : Int) := Int.eq_ofNat_of_zero_le ho.1
    rw [hO] at hst ho ⊢
    rw [Int.toNat_natCast] at hst
    rw [sp_word_Mul (wd_iff.2 ⟨by omega, by omega⟩) (wd_iff.2 ⟨by omega, by omega⟩) (wd_iff.2 ⟨by omega, by omega⟩) (wd_iff.2 ⟨by omega, by omega⟩)]
    have hxy : x * y ≤ 18446744073709551615 * 18446744073709551615 := Nat.mul_le_mul (by omega) (by omega)
    have e2 : ((x : Int) * (y : Int) + (o : Int) + (c : Int)) = ((x * y + o + c : Nat) : Int) := by rw [Int.natCast_add, Int.natCast_add, Int.natCast_mul]
    refine ev_bind0 rfl ?_
    simp only [e2]
    generalize hT : x * y + o + c = T at *
    have hTb : T < 18446744073709551616 * 18446744073709551616 := by generalize x * y = p at *; omega
    have e3 : (T : Int) % 18446744073709551616 = ((T % 18446744073709551616 : Nat) : Int) := by omega
    have e4 : (T : Int) / 18446744073709551616 = ((T / 18446744073709551616 : Nat) : Int) := by omega
    rw [e3, e4]
    exact ih (j + 1) (T / 18446744073709551616) (out.set (i + j) ((T % 18446744073709551616 : Nat) : Int)) (by omega) (by rw [List.length_set]; exact hl) (dg_set hdg ⟨by omega, by omega⟩ _) (zero_set hlt (by omega) _ hz) (by omega) hst.out
theorem mul_outer {a b : List Int} (ha : Wd a) (hb : Wd b) (la : a.length ≤ 1000000) (lb : b.length ≤ 1000000) : ∀ (d i : Nat) (out : List Int), i + d = a.length → out.length = a.length + b.length → Wd out →
    (∀ t, i + b.length ≤ t → at0 out t = 0) → nW out = (nW a % 18446744073709551616 ^ i) * nW b →
    Ev (fun k => product_Mul.l0 k a b out (a.length : Int) (i : Int)) (wds (a.length + b.length) (nW a * nW b)) := by
  intro d
  induction d with
  | zero =>
    intro i out hi hl hdg hz h
    refine Ev.step (fun k => product_Mul.l0.eq_2 ..) (ev_neg (by omega) (ev_const ?_))
    congr 1
    rw [show i = a.length by omega, Nat.mod_eq_of_lt (nW_lt ha)] at h
    rw [Wd_eq hdg, hl, h]
  | succ d ih =>
    intro i out hi hl hdg hz h
    refine Ev.step (fun k => product_Mul.l0.eq_2 ..) (ev_pos (by omega) (ev_bind0 rfl ?_))
    exact mul_inner ha hb la lb i (by omega) _ (fun out' q1 q2 q3 q4 => ih (i + 1) out' (by omega) q1 q2 q3 q4) b.length 0 0 out (by omega) hl hdg hz (by decide) (by simp [h, Nat.mod_one])
theorem sp_product_Mul {a b : List Int} (ha : Wd a) (hb : Wd b) (la : a.length ≤ 300) (lb : b.length ≤ 300) : Ev (fun k => product_Mul.f k a b) (wds (a.length + b.length) (nW a * nW b)) := by
  unfold product_Mul.f
  refine ev_bind (sp_product_long [a, b] (by simp)) ?_
  rw [few2, decide_eq_true la, decide_eq_true lb]
  refine ev_neg (by decide) ?_
  have e1 : wrap64 ((a.length : Int) + (b.length : Int)) = ((a.length + b.length : Nat) : Int) := by rw [w64 (by omega) (by omega)]; omega
  rw [e1]
  refine ev_pos (by omega) (ev_pos (by rw [Int.toNat_natCast]; omega) ?_)
  rw [Int.toNat_natCast]
  refine mul_outer ha hb (by omega) (by omega) a.length 0 _ (by omega) (List.length_replicate) ?_ ?_ ?_
  · intro x hx; rw [(List.mem_replicate.1 hx).2]; decide
  · intro t _
    unfold at0
    by_cases ht : t < a.length + b.length
    · simp [ht]
    · simp [ht]
  · rw [nW, num_replicate]; simp [Nat.mod_one]
theorem awake5 : Ev (fun k => sconcelaw05_awake.f k) true := Ev.of (fun k => sconcelaw05_awake.mono k) (k := 40) (by kernel_rfl)
end Go.Proofs.Ytalfniohakahlaa.X
