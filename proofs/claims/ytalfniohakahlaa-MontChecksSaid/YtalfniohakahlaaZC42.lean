/- Texts of the walk and of the plain laws, laid together by a program: PsMontChecks, Sp6b, PureMontChecks. -/
import Derived.ArgAppend
import Derived.Below
import Derived.BigQuiet
import Derived.Deep.AppendLies
import Derived.Deep.CutBlock
import Derived.Deep.DeepCutAuto
import Derived.Deep.Draws
import Derived.Deep.LoopGhost
import Derived.Deep.OwnRows
import Derived.Deep.QuietTactic
import Derived.Deep.RegionHeld3
import Derived.Deep.RegionLaw
import Derived.Deep.RegionWith
import Derived.Defers
import Derived.KernelRfl
import Derived.Laws.BitsAllLaws
import Derived.Laws.BitsLemmas
import Derived.Laws.BytesArg
import Derived.Laws.CopyOwn
import Derived.Laws.Externs
import Derived.Laws.IdiomCopy
import Derived.Laws.MakeOwn
import Derived.Laws.OwnMore
import Derived.Laws.Rows
import Derived.Laws.Slices
import Derived.Lib.AppendStr
import Derived.Lib.BitFns
import Derived.Lib.ConvBytes
import Derived.Lib.Hide
import Derived.Lib.Slices
import Derived.Lib.Small
import Derived.Lib.Strings
import Derived.Lib.Walk
import Derived.Maps.AppendAt
import Derived.OrdersHeld
import Derived.OwnWalk
import Derived.Recover
import Derived.RowKit
import Derived.RowKit3
import Derived.Shelf.Spec.BitsCarry
import Derived.Tactics
import Derived.Test.YtalfniohakahlaaProg
import Derived.WalkKit
import Derived.WalkSmall
import Derived.WideLaws
import Derived.Test.YtalfniohakahlaaZC0
import Derived.Test.YtalfniohakahlaaZC1
import Derived.Test.YtalfniohakahlaaZC2
import Derived.Test.YtalfniohakahlaaZC4
import Derived.Test.YtalfniohakahlaaZC6
import Derived.Test.YtalfniohakahlaaZC18
import Derived.Test.YtalfniohakahlaaZC27
import Derived.Test.YtalfniohakahlaaZC29
import Derived.Test.YtalfniohakahlaaZC30
import Derived.Test.YtalfniohakahlaaZC36
import Derived.Test.YtalfniohakahlaaZC39
import Derived.Test.YtalfniohakahlaaZC40
import Derived.Test.YtalfniohakahlaaZC41
section
namespace Go.Proofs.Ytalfniohakahlaa.X
open Go.RowKit
def sconcelaw06_MontChecks.PureS : Prop := ∀ (l0_0 : List Int) (b0_1 : Int) (l0_2 : List Int), l0_0.length ≤ maxLen → (∀ x ∈ l0_0, (Lit.int .u64 x).wf = true) → (Lit.int .u64 b0_1).wf = true → l0_2.length ≤ maxLen → (∀ x ∈ l0_2, (Lit.int .u64 x).wf = true) → ∃ k, sconcelaw06_MontChecks.f k l0_0 b0_1 l0_2 = some true
end Go.Proofs.Ytalfniohakahlaa.X
end
section
namespace Go.Proofs.Ytalfniohakahlaa.X
open Go.RowKit Go.Proofs.YtalfniohakahlaaW.PrintWords Go.Proofs.YtalfniohakahlaaW.PrintLast Go.Proofs.Ytalfniohakahlaa.Ma
theorem slices_Equal_loop (a b : List Int) (hn : a.length ≤ 1000000000000) (hl : a.length = b.length) : ∀ (d i : Nat), i + d = a.length → (∀ j, j < i → at0 a j = at0 b j) →
    Ev (fun k => api_Nat_uint64_80.l0 k a b (a.length : Int) (i : Int)) (decide (a = b)) := by
  intro d
  induction d with
  | zero =>
    intro i hi h
    refine Ev.step (fun k => by rw [api_Nat_uint64_80.l0]) (ev_neg (by omega) (ev_const ?_))
    have : a = b := ext_at0 hl (fun j hj => h j (by omega))
    simp [this]
  | succ d ih =>
    intro i hi h
    refine Ev.step (fun k => by rw [api_Nat_uint64_80.l0, w64_succ (by omega), rdA, rdA]) ?_
    refine ev_pos (by omega) (ev_pos (by omega) (ev_pos (by omega) (ev_pos (by omega) ?_)))
    by_cases he : at0 a i = at0 b i
    · exact ev_pos he (ih (i + 1) (by omega) (fun j hj => by
        by_cases e : j = i
        · subst e; exact he
        · exact h j (by omega)))
    · refine ev_neg he (ev_const ?_)
      have : ¬ a = b := fun e => he (by rw [e])
      simp [this]
theorem sp_slices_Equal {a b : List Int} (hn : a.length ≤ 1000000000000) : Ev (fun k => api_Nat_uint64_80.f k a b) (decide (a = b)) := by
  unfold api_Nat_uint64_80.f
  by_cases h : a.length = b.length
  · exact ev_pos (by omega) (slices_Equal_loop a b hn h a.length 0 (by omega) (fun j hj => absurd hj (by omega)))
  · refine ev_neg (by omega) (ev_const ?_)
    have : ¬ a = b := fun e => h (by rw [e])
    simp [this]
def chkB (R : List Int × Int × List Int × Int) (m : List Int) (K : Int) (rr : List Int) : Bool := if R.2.2.2 = 0 then (if R.1 = m then (if R.2.1 = K then decide (R.2.2.1 = rr) else false) else false) else false
theorem sp_mont_Check {m rr : List Int} {K : Int} (h : Wd m) (hl : m.length ≤ 1000) : ∃ R, SetR (nW m) R ∧ Ev (fun k => mont_Check.f k m K rr) (chkB R m K rr) := by
  obtain ⟨R, h1, h2⟩ := sp_mont_Setup h hl
  have hn := h1.len
  refine ⟨R, h1, ?_⟩
  unfold mont_Check.f chkB
  refine ev_bind h2 ?_
  by_cases e1 : R.2.2.2 = 0
  · rw [if_pos e1]
    refine ev_pos e1 (ev_bind (sp_slices_Equal (by omega)) ?_)
    by_cases e2 : R.1 = m
    · rw [if_pos e2]
      refine ev_pos (decide_eq_true e2) ?_
      by_cases e3 : R.2.1 = K
      · rw [if_pos e3]
        exact ev_pos e3 (ev_bind (sp_slices_Equal (by omega)) (ev_const rfl))
      · rw [if_neg e3]
        exact ev_neg e3 (ev_const rfl)
    · rw [if_neg e2]
      exact ev_neg (by rw [decide_eq_false e2]; decide) (ev_const rfl)
  · rw [if_neg e1]
    exact ev_neg e1 (ev_const rfl)
theorem sp_ref6_Check {m rr : List Int} {K : Int} (h : Wd m) (hl : m.length ≤ 1000) : ∃ R, SetR (nW m) R ∧ Ev (fun k => sconceref06_Check.f k m K rr) (chkB R m K rr) := by
  obtain ⟨R, h1, h2⟩ := sp_ref6_Setup h hl
  have hn := h1.len
  refine ⟨R, h1, ?_⟩
  unfold sconceref06_Check.f chkB
  refine ev_bind h2 ?_
  by_cases e1 : R.2.2.2 = 0
  · rw [if_pos e1]
    refine ev_pos e1 (ev_bind (sp_Same (by omega)) ?_)
    by_cases e2 : R.1 = m
    · rw [if_pos e2]
      refine ev_pos (decide_eq_true e2) ?_
      by_cases e3 : R.2.1 = K
      · rw [if_pos e3]
        exact ev_pos e3 (ev_bind (sp_Same (by omega)) (ev_const rfl))
      · rw [if_neg e3]
        exact ev_neg e3 (ev_const rfl)
    · rw [if_neg e2]
      exact ev_neg (by rw [decide_eq_false e2]; decide) (ev_const rfl)
  · rw [if_neg e1]
    exact ev_neg e1 (ev_const rfl)
theorem sp_few6 (m : List Int) (K : Int) (rr : List Int) (ls : List (List Int)) (hn : ls.length ≤ 1000000000) : Ev (fun k => sconcelaw06_few.f k m K rr ls) (fewB 40 [m, rr] && fewB 40 ls) := by
  unfold sconcelaw06_few.f
  refine ev_bind (sp_Few5 _ (by simp)) ?_
  by_cases h : fewB 40 [m, rr] = true
  · rw [h, Bool.true_and]
    exact ev_pos rfl (ev_bind (sp_Few5 _ hn) (ev_const rfl))
  · rw [Bool.not_eq_true] at h
    rw [h, Bool.false_and]
    exact ev_neg (by decide) (ev_const rfl)
end Go.Proofs.Ytalfniohakahlaa.X
end
section
namespace Go.Proofs.Ytalfniohakahlaa.Pure
open Go.RowKit Go.Proofs.Ytalfniohakahlaa.X Go.Proofs.YtalfniohakahlaaW.PrintWords Go.Proofs.YtalfniohakahlaaW.PrintLast Go.Proofs.Ytalfniohakahlaa.Ma
theorem MontChecks : sconcelaw06_MontChecks.PureS := by
  intro m K rr _ hm _ _ _
  rw [wf_Wd] at hm
  refine Ev.rounds ?_
  unfold sconcelaw06_MontChecks.f
  refine ev_bind awake6 (ev_pos rfl (ev_bind (sp_few6 _ _ _ _ (by simp)) ?_))
  by_cases h : (fewB 40 [m, rr] && fewB 40 []) = true
  · have h' : m.length ≤ 40 ∧ rr.length ≤ 40 := by simpa [fewB] using h
    obtain ⟨R, h1, h2⟩ := sp_mont_Check (rr := rr) (K := K) hm (by omega)
    obtain ⟨S, h3, h4⟩ := sp_ref6_Check (rr := rr) (K := K) hm (by omega)
    have e := h1.uniq h3
    subst e
    exact ev_pos h (ev_bind h2 (ev_bind h4 (ev_const (by simp))))
  · exact ev_neg h (ev_const rfl)
end Go.Proofs.Ytalfniohakahlaa.Pure
end
