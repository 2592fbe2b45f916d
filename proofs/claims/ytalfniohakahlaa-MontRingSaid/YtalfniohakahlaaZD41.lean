/- Texts of the walk and of the plain laws, laid together by a program: Sp6r, PureMontRing. -/
import Derived.Test.YtalfniohakahlaaZD0
import Derived.Test.YtalfniohakahlaaZD1
import Derived.Test.YtalfniohakahlaaZD2
import Derived.Test.YtalfniohakahlaaZD4
import Derived.Test.YtalfniohakahlaaZD6
import Derived.Test.YtalfniohakahlaaZD3
import Derived.Test.YtalfniohakahlaaZD15
import Derived.Test.YtalfniohakahlaaZD17
import Derived.Test.YtalfniohakahlaaZD16
import Derived.Test.YtalfniohakahlaaZD18
import Derived.Test.YtalfniohakahlaaZD19
import Derived.Test.YtalfniohakahlaaZD22
import Derived.Test.YtalfniohakahlaaZD25
import Derived.Test.YtalfniohakahlaaZD31
import Derived.Test.YtalfniohakahlaaZD32
import Derived.Test.YtalfniohakahlaaZD33
import Derived.Test.YtalfniohakahlaaZD34
import Derived.Test.YtalfniohakahlaaZD36
import Derived.Test.YtalfniohakahlaaZD37
import Derived.Test.YtalfniohakahlaaZD38
import Derived.Test.YtalfniohakahlaaZD27
import Derived.Test.YtalfniohakahlaaZD39
import Derived.Test.YtalfniohakahlaaZD40
section
namespace Go.Proofs.Ytalfniohakahlaa.X
open Go.RowKit Go.Proofs.YtalfniohakahlaaW.PrintWords Go.Proofs.YtalfniohakahlaaW.PrintLast Go.Proofs.Ytalfniohakahlaa.Ma
set_option linter.unusedVariables false
set_option linter.unusedSimpArgs false
theorem sp_nat_at (l : List Int) (i : Nat) : nat_at.f l (i : Int) = some (at0 l i) := by
  unfold nat_at.f
  rw [if_neg (by omega)]
  by_cases h : l.length ≤ i
  · rw [if_pos (by omega), at0_ge h]
  · rw [if_neg (by omega), if_pos (by omega), if_pos (by omega), rdA]
theorem Compare_loop {a b : List Int} (ha : Wd a) (hb : Wd b) : ∀ j : Nat, j ≤ 1000000000 → nW a / 18446744073709551616 ^ j = nW b / 18446744073709551616 ^ j → Ev (fun k => nat_Compare.l0 k a b ((j : Int) - 1)) (cmpI (nW a) (nW b)) := by
  intro j
  induction j with
  | zero =>
    intro _ h
    rw [Nat.pow_zero, Nat.div_one, Nat.div_one] at h
    refine Ev.step (fun k => nat_Compare.l0.eq_2 ..) (ev_neg (by omega) (ev_const ?_))
    unfold cmpI
    rw [if_neg (by omega), if_pos h]
  | succ j ih =>
    intro hj h
    have e0 : ((j + 1 : Nat) : Int) - 1 = (j : Int) := by omega
    have e1 : wrap64 ((j : Int) - 1) = (j : Int) - 1 := by rw [w64 (by omega) (by omega)]
    rw [e0]
    refine Ev.step (fun k => nat_Compare.l0.eq_2 ..) (ev_pos (by omega) (ev_bind0 (sp_nat_at a j) (ev_bind0 (sp_nat_at b j) ?_)))
    rw [at0_nW ha, at0_nW hb, e1]
    have hX := Nat.div_add_mod (nW a / 18446744073709551616 ^ j) 18446744073709551616
    have hY := Nat.div_add_mod (nW b / 18446744073709551616 ^ j) 18446744073709551616
    rw [Nat.div_div_eq_div_mul, ← Nat.pow_succ] at hX hY
    rw [h] at hX
    have hlt : ∀ X Y : Nat, X / 18446744073709551616 ^ j < Y / 18446744073709551616 ^ j → X < Y := fun X Y g => by
      rcases Nat.lt_or_ge X Y with g2 | g2
      · exact g2
      · have := Nat.div_le_div_right (c := 18446744073709551616 ^ j) g2
        omega
    have l1 := hlt (nW a) (nW b)
    have l2 := hlt (nW b) (nW a)
    clear hlt
    obtain ⟨x, hx⟩ : ∃ x, x = nW a / 18446744073709551616 ^ j := ⟨_, rfl⟩
    obtain ⟨y, hy⟩ : ∃ y, y = nW b / 18446744073709551616 ^ j := ⟨_, rfl⟩
    rw [← hx] at hX l1 l2 ⊢
    rw [← hy] at hY l1 l2 ⊢
    rw [← hx, ← hy] at ih
    obtain ⟨q, hq⟩ : ∃ q, q = nW b / 18446744073709551616 ^ (j + 1) := ⟨_, rfl⟩
    rw [← hq] at hX hY
    clear hx hy hq h
    by_cases c1 : x % 18446744073709551616 < y % 18446744073709551616
    · refine ev_pos (by omega) (ev_const ?_)
      unfold cmpI
      rw [if_pos (l1 (by omega))]
    · refine ev_neg (by omega) ?_
      by_cases c2 : y % 18446744073709551616 < x % 18446744073709551616
      · refine ev_pos (by omega) (ev_const ?_)
        have := l2 (by omega)
        unfold cmpI
        rw [if_neg (by omega), if_neg (by omega)]
      · exact ev_neg (by omega) (ih (by omega) (by omega))
theorem sp_nat_Compare {a b : List Int} (ha : Wd a) (hb : Wd b) (la : a.length ≤ 1000000) (lb : b.length ≤ 1000000) : Ev (fun k => nat_Compare.f k a b) (cmpI (nW a) (nW b)) := by
  unfold nat_Compare.f
  have e : wrap64 (mx (a.length : Int) (b.length : Int) - 1) = ((max a.length b.length : Nat) : Int) - 1 := by
    rw [mx_max, w64 (by omega) (by omega)]
    omega
  rw [e]
  refine Compare_loop ha hb _ (by omega) ?_
  rw [Nat.div_eq_of_lt (Nat.lt_of_lt_of_le (nW_lt ha) (Nat.pow_le_pow_right (by decide) (Nat.le_max_left _ _))), Nat.div_eq_of_lt (Nat.lt_of_lt_of_le (nW_lt hb) (Nat.pow_le_pow_right (by decide) (Nat.le_max_right _ _)))]
def memB (m r : List Int) : Bool := decide (r.length = m.length) && decide (nW r < nW m)
theorem members_loop {m rr : List Int} {K : Int} (hm : Wd m) (lm : m.length ≤ 1000000) (ls : List (List Int)) (hls : ∀ r ∈ ls, Wd r) (hn : ls.length ≤ 1000000) : ∀ (d i : Nat), i + d = ls.length → Ev (fun k => mont_members.l0 k ls (ls.length : Int) (i : Int) m K rr) ((ls.drop i).all (memB m)) := by
  intro d
  induction d with
  | zero =>
    intro i hi
    refine Ev.step (fun k => mont_members.l0.eq_2 ..) (ev_neg (by omega) (ev_const ?_))
    rw [List.drop_eq_nil_of_le (by omega)]
    rfl
  | succ d ih =>
    intro i hi
    have hlt : i < ls.length := by omega
    have hget : ls.getD i [] = ls[i] := by simp [hlt]
    have hw : Wd ls[i] := hls _ (List.getElem_mem hlt)
    refine Ev.step (fun k => mont_members.l0.eq_2 ..) (ev_pos (by omega) (ev_pos (by omega) (ev_pos (by omega) ?_)))
    rw [rdLI, hget, w64_succ (i := i) (by omega), List.drop_eq_getElem_cons hlt, List.all_cons]
    unfold memB
    by_cases h1 : ls[i].length = m.length
    · rw [decide_eq_true h1, Bool.true_and]
      refine ev_pos (by omega) (ev_bind (sp_nat_Compare hw hm (by omega) lm) ?_)
      by_cases h2 : nW ls[i] < nW m
      · rw [decide_eq_true h2, Bool.true_and]
        refine ev_neg ?_ (ih (i + 1) (by omega))
        unfold cmpI
        rw [if_pos h2]
        decide
      · rw [decide_eq_false h2, Bool.false_and]
        refine ev_pos ?_ (ev_const rfl)
        unfold cmpI
        rw [if_neg h2]
        split <;> decide
    · rw [decide_eq_false h1, Bool.false_and, Bool.false_and]
      exact ev_neg (by omega) (ev_const rfl)
def IsMod (m : List Int) (K : Int) (rr : List Int) : Prop := Wd m ∧ wlen (nW m) ≤ 130 ∧ 1 < nW m ∧ nW m % 2 = 1 ∧ IsK (nW m) K ∧ m = wds (wlen (nW m)) (nW m) ∧ rr = wds (wlen (nW m)) (18446744073709551616 ^ (2 * wlen (nW m)) % nW m)
theorem IsMod.len {m rr : List Int} {K : Int} (h : IsMod m K rr) : m.length = wlen (nW m) := by
  have := h.2.2.2.2.2.1
  conv => lhs; rw [this]
  exact dgs_length _ _ _
theorem IsMod.of {M : Nat} {R : List Int × Int × List Int × Int} (h : SetR M R) (he : R.2.2.2 = 0) : IsMod R.1 R.2.1 R.2.2.1 ∧ nW R.1 = M := by
  rcases h with ⟨_, rfl⟩ | ⟨_, _, rfl⟩ | ⟨_, _, _, rfl⟩ | ⟨h1, h2, h3, K, hK, rfl⟩
  · exact absurd he (by decide)
  · exact absurd he (by decide)
  · exact absurd he (by decide)
  · have e : nW (wds (wlen M) M) = M := nW_wds (wlen_lt M)
    refine ⟨⟨wds_Wd _ _, ?_⟩, e⟩
    simp only [e]
    exact ⟨h1, h2, h3, hK, trivial, trivial⟩
theorem IsMod.check {m rr : List Int} {K : Int} (h : IsMod m K rr) : Ev (fun k => mont_Check.f k m K rr) true := by
  obtain ⟨h1, h2, h3, h4, h5, h6, h7⟩ := h
  have hl : m.length ≤ 1000 := by
    rw [h6, dgs_length]
    omega
  obtain ⟨R, g1, g2⟩ := sp_mont_Check (rr := rr) (K := K) h1 hl
  have e : R = (wds (wlen (nW m)) (nW m), K, wds (wlen (nW m)) (18446744073709551616 ^ (2 * wlen (nW m)) % nW m), 0) := g1.uniq (.inr (.inr (.inr ⟨h2, h3, h4, K, h5, rfl⟩)))
  have ec : chkB R m K rr = true := by
    rw [e]
    unfold chkB
    simp only
    rw [if_pos trivial, if_pos h6.symm, if_pos trivial, decide_eq_true h7.symm]
  rw [ec] at g2
  exact g2
theorem sp_mont_members {m rr : List Int} {K : Int} (h : IsMod m K rr) (ls : List (List Int)) (hls : ∀ r ∈ ls, Wd r) (hn : ls.length ≤ 1000000) : Ev (fun k => mont_members.f k m K rr ls) (ls.all (memB m)) := by
  unfold mont_members.f
  refine ev_bind h.check (ev_pos rfl ?_)
  have := members_loop (rr := rr) (K := K) h.1 (by rw [h.len]; have := h.2.1; omega) ls hls hn ls.length 0 (by omega)
  rw [List.drop_zero] at this
  exact this
theorem mp_inv {M r y j : Nat} (ho : M % 2 = 1) (h : (r * 2 ^ j) % M = (y * 2 ^ j) % M) : r % M = y % M := by
  have key : ∀ x : Nat, (x * 2 ^ j % M * ((M + 1) / 2) ^ j) % M = x % M := by
    intro x
    rw [Nat.mul_mod, Nat.mod_mod, ← Nat.mul_mod, Nat.mul_assoc, ← Nat.mul_pow, show 2 * ((M + 1) / 2) = M + 1 by omega, Nat.mul_mod, Nat.pow_mod, Nat.add_mod_left, ← Nat.pow_mod, Nat.one_pow, ← Nat.mul_mod, Nat.mul_one]
  rw [← key r, ← key y, h]
theorem mp_invW {M r y n : Nat} (ho : M % 2 = 1) (h : (r * 18446744073709551616 ^ n) % M = (y * 18446744073709551616 ^ n) % M) : r % M = y % M := by
  have e : 18446744073709551616 ^ n = 2 ^ (64 * n) := by rw [Nat.pow_mul]
  rw [e] at h
  exact mp_inv ho h
theorem sp_mont_Mul {m rr a b : List Int} {K : Int} (h : IsMod m K rr) (ha : Wd a) (hb : Wd b) (hma : memB m a = true) (hmb : memB m b = true) :
    ∃ r, r < nW m ∧ (r * 18446744073709551616 ^ m.length) % nW m = (nW a * nW b) % nW m ∧ Ev (fun k => mont_Mul.f k m K rr a b) (wds m.length r, 0) := by
  have ga : a.length = m.length ∧ nW a < nW m := by simpa [memB] using hma
  have gb : b.length = m.length ∧ nW b < nW m := by simpa [memB] using hmb
  obtain ⟨r, r1, r2, r3⟩ := sp_mont_Product (rr := rr) h.1 ha hb h.2.2.2.2.1 h.2.2.2.1 ga.1 gb.1 (by rw [h.len]; have := h.2.1; omega) gb.2
  refine ⟨r, r1, r2, ?_⟩
  unfold mont_Mul.f
  have hmem := sp_mont_members h [a, b] (by intro x hx; simp at hx; rcases hx with rfl | rfl <;> assumption) (by simp)
  rw [show [a, b].all (memB m) = true by simp [hma, hmb]] at hmem
  exact ev_bind hmem (ev_pos rfl (ev_bind r3 (ev_const rfl)))
theorem sp_mont_Mul_no {m rr a b : List Int} {K : Int} (h : IsMod m K rr) (ha : Wd a) (hb : Wd b) (hn : (memB m a && memB m b) = false) : Ev (fun k => mont_Mul.f k m K rr a b) ([], 1) := by
  unfold mont_Mul.f
  have hmem := sp_mont_members h [a, b] (by intro x hx; simp at hx; rcases hx with rfl | rfl <;> assumption) (by simp)
  rw [show [a, b].all (memB m) = false by simpa using hn] at hmem
  exact ev_bind hmem (ev_neg (by decide) (ev_const rfl))
theorem IsMod.rr {m rr : List Int} {K : Int} (h : IsMod m K rr) : Wd rr ∧ memB m rr = true ∧ nW rr = 18446744073709551616 ^ (2 * m.length) % nW m := by
  have hl := h.len
  have h3 := h.2.2.1
  have e := h.2.2.2.2.2.2
  rw [← hl] at e
  have hlt : 18446744073709551616 ^ (2 * m.length) % nW m < nW m := Nat.mod_lt _ (by omega)
  have hn : nW rr = 18446744073709551616 ^ (2 * m.length) % nW m := by
    rw [e]
    exact nW_wds (Nat.lt_trans hlt (nW_lt h.1))
  refine ⟨by rw [e]; exact wds_Wd _ _, ?_, hn⟩
  unfold memB
  rw [hn, decide_eq_true hlt, e, dgs_length, decide_eq_true rfl]
  rfl
theorem sp_mont_Enter {m rr a : List Int} {K : Int} (h : IsMod m K rr) (ha : Wd a) (hma : memB m a = true) : Ev (fun k => mont_Enter.f k m K rr a) (wds m.length (nW a * 18446744073709551616 ^ m.length % nW m), 0) := by
  obtain ⟨g1, g2, g3⟩ := h.rr
  obtain ⟨r, r1, r2, r3⟩ := sp_mont_Mul h ha g1 hma g2
  have e : r = nW a * 18446744073709551616 ^ m.length % nW m := by
    rw [← Nat.mod_eq_of_lt r1]
    refine mp_invW h.2.2.2.1 (n := m.length) ?_
    rw [r2, g3, Nat.mul_mod, Nat.mod_mod, ← Nat.mul_mod, Nat.two_mul, Nat.pow_add, Nat.mul_assoc]
  rw [e] at r3
  unfold mont_Enter.f
  exact ev_bind r3 (ev_const rfl)
theorem sp_mont_Enter_no {m rr a : List Int} {K : Int} (h : IsMod m K rr) (ha : Wd a) (hma : memB m a = false) : Ev (fun k => mont_Enter.f k m K rr a) ([], 1) := by
  obtain ⟨g1, g2, g3⟩ := h.rr
  unfold mont_Enter.f
  exact ev_bind (sp_mont_Mul_no h ha g1 (by rw [hma]; rfl)) (ev_const rfl)
theorem word_first {n : Nat} (hn : 0 < n) : (List.replicate n (0 : Int)).set 0 1 = wds n 1 := by
  have h := dgs_set (B := 18446744073709551616) 1 hn (1 : Int) (by rw [Nat.pow_zero, Nat.div_one]; rfl)
  have e := dgs_append (B := 18446744073709551616) 1 (n - 1) 1
  rw [Nat.pow_one, Nat.div_eq_of_lt (by decide), dgs_zero, show 1 + (n - 1) = n by omega] at e
  show _ = dgs _ _ _
  rw [e]
  exact h
theorem sp_nat_Word1 {n : Nat} (h0 : 0 < n) (h1 : n ≤ 300) : nat_Word.f 1 (n : Int) = some (wds n 1) := by
  have e : mn (mx (n : Int) 1) 300 = (n : Int) := by unfold mn mx; omega
  unfold nat_Word.f
  rw [e, if_pos (by omega), Int.toNat_natCast, if_pos (by omega), Option.bind_some, List.length_replicate, if_pos (by omega)]
  congr 1
  exact word_first h0
theorem sp_mont_Leave {m rr a : List Int} {K : Int} (h : IsMod m K rr) (ha : Wd a) (hma : memB m a = true) :
    ∃ r, r < nW m ∧ (r * 18446744073709551616 ^ m.length) % nW m = nW a % nW m ∧ Ev (fun k => mont_Leave.f k m K rr a) (wds m.length r, 0) := by
  have ga : a.length = m.length ∧ nW a < nW m := by simpa [memB] using hma
  have hl := h.len
  have h3 := h.2.2.1
  have hwp := wlen_pos (x := nW m) (by omega)
  have hn1 : nW (wds m.length 1) = 1 := nW_wds (Nat.one_lt_pow (by omega) (by decide))
  obtain ⟨r, r1, r2, r3⟩ := sp_mont_Product (rr := rr) (b := wds m.length 1) h.1 ha (wds_Wd _ _) h.2.2.2.2.1 h.2.2.2.1 ga.1 (dgs_length _ _ _) (by rw [h.len]; have := h.2.1; omega) (by rw [hn1]; exact h3)
  rw [hn1, Nat.mul_one] at r2
  refine ⟨r, r1, r2, ?_⟩
  unfold mont_Leave.f
  have hmem := sp_mont_members h [a] (by intro x hx; simp at hx; rw [hx]; exact ha) (by simp)
  rw [show [a].all (memB m) = true by simp [hma]] at hmem
  exact ev_bind hmem (ev_pos rfl (ev_bind0 (sp_nat_Word1 (by omega) (by have := h.2.1; omega)) (ev_bind r3 (ev_const rfl))))
end Go.Proofs.Ytalfniohakahlaa.X
end
section
namespace Go.Proofs.Ytalfniohakahlaa.Pure
open Go.RowKit Go.Proofs.Ytalfniohakahlaa.X Go.Proofs.YtalfniohakahlaaW.PrintWords Go.Proofs.YtalfniohakahlaaW.PrintLast Go.Proofs.Ytalfniohakahlaa.Ma
set_option linter.unusedVariables false
set_option linter.unusedSimpArgs false
theorem memB_wds {m : List Int} {r : Nat} (hm : Wd m) (h : r < nW m) : memB m (wds m.length r) = true ∧ nW (wds m.length r) = r := by
  have e : nW (wds m.length r) = r := nW_wds (Nat.lt_trans h (nW_lt hm))
  refine ⟨?_, e⟩
  unfold memB
  rw [e, decide_eq_true h, dgs_length, decide_eq_true rfl]
  rfl
theorem ring_in {l a b m rr : List Int} {K : Int} (hl : Wd l) (ll : l.length ≤ 40) (ha : Wd a) (hb : Wd b) (la : a.length ≤ 40) (lb : b.length ≤ 40) (h : IsMod m K rr) (hM : nW m = nW l) (hma : memB m a = true) (hmb : memB m b = true) :
    Ev (fun k => sconcelaw06_MontRing.j0 k l a b (wds m.length (nW a * 18446744073709551616 ^ m.length % nW m)) 0 (wds m.length (nW b * 18446744073709551616 ^ m.length % nW m)) 0 false m K rr) true := by
  have h1 := h.2.2.1
  have ho := h.2.2.2.1
  have ga : a.length = m.length ∧ nW a < nW m := by simpa [memB] using hma
  have gb : b.length = m.length ∧ nW b < nW m := by simpa [memB] using hmb
  obtain ⟨u, hu⟩ : ∃ u, u = nW a * 18446744073709551616 ^ m.length % nW m := ⟨_, rfl⟩
  obtain ⟨v, hv⟩ : ∃ v, v = nW b * 18446744073709551616 ^ m.length % nW m := ⟨_, rfl⟩
  have hul : u < nW m := by rw [hu]; exact Nat.mod_lt _ (by omega)
  have hvl : v < nW m := by rw [hv]; exact Nat.mod_lt _ (by omega)
  rw [← hu, ← hv]
  obtain ⟨mu1, mu2⟩ := memB_wds h.1 hul
  obtain ⟨mv1, mv2⟩ := memB_wds h.1 hvl
  obtain ⟨x, x1, x2, x3⟩ := sp_mont_Leave h (wds_Wd m.length u) mu1
  obtain ⟨y, y1, y2, y3⟩ := sp_mont_Mul h (wds_Wd m.length u) (wds_Wd m.length v) mu1 mv1
  obtain ⟨my1, my2⟩ := memB_wds h.1 y1
  obtain ⟨z, z1, z2, z3⟩ := sp_mont_Leave h (wds_Wd m.length y) my1
  rw [mu2] at x2
  rw [mu2, mv2] at y2
  rw [my2] at z2
  have ex : x = nW a := by
    rw [← Nat.mod_eq_of_lt x1, ← Nat.mod_eq_of_lt ga.2]
    refine mp_invW ho (n := m.length) ?_
    rw [x2, hu, Nat.mod_mod]
  have ey : y % nW m = (nW a * nW b * 18446744073709551616 ^ m.length) % nW m := by
    refine mp_invW ho (n := m.length) ?_
    rw [y2, hu, hv, ← Nat.mul_mod]
    congr 1
    ac_rfl
  have ez : z = nW a * nW b % nW m := by
    rw [← Nat.mod_eq_of_lt z1]
    refine mp_invW ho (n := m.length) ?_
    rw [z2, ey]
  have hx : wds m.length x = a := by
    rw [ex, ← ga.1]
    exact dgs_num ha
  have mz := (memB_wds h.1 z1).2
  have bl1 := blen_nW hl
  have bl2 := blen_nW ha
  have bl3 := blen_nW hb
  have bl4 := blen_mul bl2 bl3
  have hO := sp_OfW (wds_Wd m.length z) (by rw [dgs_length]; omega)
  rw [mz, ez, hM] at hO
  have hMM : Ev (fun k => sconceref03_MulMod.f k (big (nW a)) (big (nW b)) (big (nW l))) (big (nW a * nW b % nW l)) := by
    unfold sconceref03_MulMod.f
    refine ev_bind (sp_ref_Mul (by omega) (by omega)) (ev_bind0 (a := big (nW a * nW b % nW l)) ?_ (ev_const rfl))
    unfold sconceref03_Mod.f
    rw [sp_ref_DivMod (by omega) (by omega) (by omega)]
    rfl
  refine Ev.step (fun k => sconcelaw06_MontRing.j0.eq_2 ..) (ev_neg (by decide) (ev_bind x3 (ev_bind y3 (ev_bind z3 (ev_bind (sp_OfW ha (by omega)) (ev_bind (sp_OfW hb (by omega)) (ev_bind (sp_OfW hl (by omega)) (ev_bind hMM ?_))))))))
  refine ev_pos rfl (ev_pos rfl (ev_pos rfl (ev_bind (sp_Same (by rw [dgs_length]; omega)) (ev_pos (decide_eq_true hx) ?_))))
  simp only [ez, hM]
  refine ev_bind hO (ev_bind (sp_Cmp (Nat.le_trans (blen_mono (Nat.mod_le _ _)) (by omega))) (ev_const ?_))
  rw [cmp_eq, decide_eq_true rfl]
theorem MontRing : sconcelaw06_MontRing.Pure := by
  intro l a b _ _ hl _ _ ha _ _ hb
  rw [wf_Wd] at hl ha hb
  refine Ev.rounds ?_
  unfold sconcelaw06_MontRing.f
  refine ev_bind awake6 (ev_pos rfl (ev_bind (sp_Few5 _ (by simp)) ?_))
  by_cases hf : fewB 40 [l, a, b] = true
  · have h' : l.length ≤ 40 ∧ a.length ≤ 40 ∧ b.length ≤ 40 := by simpa [fewB] using hf
    obtain ⟨ll, la, lb⟩ := h'
    obtain ⟨R, r1, r2⟩ := sp_mont_Setup hl (by omega)
    refine ev_pos hf (ev_bind r2 ?_)
    by_cases he : R.2.2.2 = 0
    · obtain ⟨hI, hM⟩ := IsMod.of r1 he
      obtain ⟨m, K, rr, e⟩ := R
      simp only at he hI hM ⊢
      refine ev_pos he ?_
      by_cases hma : memB m a = true
      · refine ev_bind (sp_mont_Enter hI ha hma) ?_
        by_cases hmb : memB m b = true
        · exact ev_bind (sp_mont_Enter hI hb hmb) (ev_pos rfl (ring_in hl ll ha hb la lb hI hM hma hmb))
        · rw [Bool.not_eq_true] at hmb
          refine ev_bind (sp_mont_Enter_no hI hb hmb) (ev_pos rfl ?_)
          exact Ev.step (fun k => sconcelaw06_MontRing.j0.eq_2 ..) (ev_pos rfl (ev_neg (show ¬ ((0 : Int) = 1) by decide) (ev_const rfl)))
      · rw [Bool.not_eq_true] at hma
        refine ev_bind (sp_mont_Enter_no hI ha hma) ?_
        by_cases hmb : memB m b = true
        · refine ev_bind (sp_mont_Enter hI hb hmb) (ev_neg (by decide) ?_)
          exact Ev.step (fun k => sconcelaw06_MontRing.j0.eq_2 ..) (ev_pos rfl (ev_pos rfl (ev_const rfl)))
        · rw [Bool.not_eq_true] at hmb
          refine ev_bind (sp_mont_Enter_no hI hb hmb) (ev_neg (by decide) ?_)
          exact Ev.step (fun k => sconcelaw06_MontRing.j0.eq_2 ..) (ev_pos rfl (ev_pos rfl (ev_const rfl)))
    · exact ev_neg he (ev_const rfl)
  · exact ev_neg hf (ev_const rfl)
end Go.Proofs.Ytalfniohakahlaa.Pure
end
