/- Texts of the walk and of the plain laws, laid together by a program: PsMontMuls, Sp6i, Sp6j, PureMontMuls. -/
import Derived.Test.YtalfniohakahlaaZD0
import Derived.Test.YtalfniohakahlaaZD1
import Derived.Test.YtalfniohakahlaaZD2
import Derived.Test.YtalfniohakahlaaZD5
import Derived.Test.YtalfniohakahlaaZD4
import Derived.Test.YtalfniohakahlaaZD6
import Derived.Test.YtalfniohakahlaaZD15
import Derived.Test.YtalfniohakahlaaZD16
import Derived.Test.YtalfniohakahlaaZD19
import Derived.Test.YtalfniohakahlaaZD21
import Derived.Test.YtalfniohakahlaaZD23
import Derived.Test.YtalfniohakahlaaZD24
import Derived.Test.YtalfniohakahlaaZD29
import Derived.Test.YtalfniohakahlaaZD31
import Derived.Test.YtalfniohakahlaaZD32
import Derived.Test.YtalfniohakahlaaZD33
import Derived.Test.YtalfniohakahlaaZD35
import Derived.Test.YtalfniohakahlaaZD36
import Derived.Test.YtalfniohakahlaaZD37
import Derived.Test.YtalfniohakahlaaZD38
import Derived.Test.YtalfniohakahlaaZD39
import Derived.Test.YtalfniohakahlaaZD41
section
namespace Go.Proofs.Ytalfniohakahlaa.X
open Go.RowKit
def sconcelaw06_MontMuls.PureS:Prop:=∀ (l0_0:List Int) (b0_1:Int) (l0_2:List Int) (l1:List Int) (l2:List Int),l0_0.length≤maxLen→(∀ x ∈ l0_0,(Lit.int .u64 x).wf = true)→(Lit.int .u64 b0_1).wf = true→l0_2.length≤maxLen→(∀ x ∈ l0_2,(Lit.int .u64 x).wf = true)→l1.length≤maxLen→(∀ x ∈ l1,(Lit.int .u64 x).wf = true)→l2.length≤maxLen→(∀ x ∈ l2,(Lit.int .u64 x).wf = true)→∃ k,sconcelaw06_MontMuls.f k l0_0 b0_1 l0_2 l1 l2 = some true
end Go.Proofs.Ytalfniohakahlaa.X
end
section
namespace Go.Proofs.Ytalfniohakahlaa.X
open Go.RowKit Go.Proofs.YtalfniohakahlaaW.PrintWords Go.Proofs.YtalfniohakahlaaW.PrintLast Go.Proofs.Ytalfniohakahlaa.Ma
set_option linter.unusedVariables false
set_option linter.unusedSimpArgs false
theorem sp_MulMod {x y m:Nat} (hm:m≠0) (bx:blen x≤10000) (by':blen y≤10000) (bm:blen m≤10000):Ev (fun k => sconceref03_MulMod.f k (big x) (big y) (big m)) (big (x * y % m)):=by
  have b:=blen_mul bx by'
  unfold sconceref03_MulMod.f
  refine ev_bind (sp_ref_Mul (by omega) (by omega)) (ev_bind0 (a:=big (x * y % m)) ?_ (ev_const rfl))
  unfold sconceref03_Mod.f
  rw [sp_ref_DivMod (by omega) (by omega) hm]
  rfl
theorem sp_SubMod {x y m:Nat} (bx:blen x≤10000) (bm:blen m≤10000) (hy:y < m):Ev (fun k => sconceref03_SubMod.f k (big x) (big y) (big m)) (big (if y≤x then x - y else x + m - y)):=by
  have hadd:=blen_add (n:=10000) bx bm
  unfold sconceref03_SubMod.f
  refine ev_bind (sp_Cmp (by omega)) ?_
  by_cases h:y≤x
  · rw [if_pos h]
    refine ev_pos ?_ (ev_bind (sp_Sub (by omega) h) (ev_const rfl))
    unfold cmpI
    rw [if_neg (by omega)]
    split <;> decide
  · rw [if_neg h]
    refine ev_neg ?_ (ev_bind (sp_Add (by omega) (by omega)) (ev_bind (sp_Sub (by omega) (by omega)) (ev_const rfl)))
    unfold cmpI
    rw [if_pos (by omega)]
    decide
theorem inv_loop {a m:Nat} (hm:1 < m) (bm:blen m≤10000):∀ (fuel r0 r1 t0 t1:Nat),r1 < fuel→r0≤m→r1≤m→t0 < m→t1 < m→(∃ c:Int,(t0:Int) * a = r0 + m * c)→(∃ c:Int,(t1:Int) * a = r1 + m * c)→Nat.gcd r0 r1 = 1 →
    ∃ t,t < m∧(∃ c:Int,(t:Int) * a = 1 + m * c)∧Ev (fun k => sconceref03_Inverse.l0 k (big m) (big r0) (big r1) (big t0) (big t1)) (big t,true):=by
  intro fuel
  induction fuel with
  | zero => intro r0 r1 t0 t1 h;omega
  | succ fuel ih =>
    intro r0 r1 t0 t1 hf h0 h1 ht0 ht1 hc0 hc1 hg
    have b0:=Nat.le_trans (blen_mono h0) bm
    have b1:=Nat.le_trans (blen_mono h1) bm
    have bt0:=Nat.le_trans (blen_mono (Nat.le_of_lt ht0)) bm
    have bt1:=Nat.le_trans (blen_mono (Nat.le_of_lt ht1)) bm
    by_cases hz:r1 = 0
    · subst hz
      rw [Nat.gcd_zero_right] at hg
      subst hg
      refine ⟨t0,ht0,hc0,Ev.step (fun k => sconceref03_Inverse.l0.eq_2 ..) (ev_neg (by rw [big_zero];decide) (ev_bind (sp_Small (w:=1) (by decide)) (ev_bind (sp_Cmp (by omega)) (ev_pos ?_ (ev_const rfl)))))⟩
      rfl
    · have hp:=blen_pos hz
      have hlt:r0 % r1 < r1:=Nat.mod_lt _ (by omega)
      have hdm:=Nat.div_add_mod r0 r1
      have hy:r0 / r1 * t1 % m < m:=Nat.mod_lt _ (by omega)
      have hq:=Nat.le_trans (blen_mono (Nat.div_le_self r0 r1)) b0
      obtain ⟨s,hs⟩:∃ s,s = if r0 / r1 * t1 % m≤t0 then t0 - r0 / r1 * t1 % m else t0 + m - r0 / r1 * t1 % m:=⟨_,rfl⟩
      have hsm:s < m:=by rw [hs];split <;> omega
      have hse:∃ j:Int,(s:Int) = t0 - ((r0 / r1 * t1:Nat):Int) + m * j:=by
        have hd:=Nat.div_add_mod (r0 / r1 * t1) m
        by_cases hle:r0 / r1 * t1 % m≤t0
        · rw [if_pos hle] at hs
          refine ⟨((r0 / r1 * t1 / m:Nat):Int),?_⟩
          rw [← Int.natCast_mul]
          generalize m * (r0 / r1 * t1 / m) = p at *
          omega
        · rw [if_neg hle] at hs
          refine ⟨((r0 / r1 * t1 / m:Nat):Int) + 1,?_⟩
          rw [Int.mul_add,Int.mul_one,← Int.natCast_mul]
          generalize m * (r0 / r1 * t1 / m) = p at *
          omega
      obtain ⟨t,g1,g2,g3⟩:=ih r1 (r0 % r1) t1 s (by omega) h1 (by omega) ht1 hsm hc1 (by
        obtain ⟨j,hj⟩:=hse
        obtain ⟨c0,e0⟩:=hc0
        obtain ⟨c1,e1⟩:=hc1
        refine ⟨c0 - ((r0 / r1:Nat):Int) * c1 + j * a,?_⟩
        have er:((r0 % r1:Nat):Int) = (r0:Int) - ((r0 / r1:Nat):Int) * r1:=by
          have:((r1 * (r0 / r1) + r0 % r1:Nat):Int) = (r0:Int):=by rw [hdm]
          rw [Int.natCast_add,Int.natCast_mul,Int.mul_comm] at this
          omega
        rw [hj,Int.add_mul,Int.sub_mul,e0,Int.natCast_mul,Int.mul_assoc _ (t1:Int),e1,er,Int.mul_add,Int.mul_add,Int.mul_sub]
        have k1:((r0 / r1:Nat):Int) * ((m:Int) * c1) = (m:Int) * (((r0 / r1:Nat):Int) * c1):=Int.mul_left_comm _ _ _
        have k2:(m:Int) * j * (a:Int) = (m:Int) * (j * a):=Int.mul_assoc _ _ _
        rw [k1,k2]
        omega) (by rw [Nat.gcd_comm,← Nat.gcd_rec,Nat.gcd_comm];exact hg)
      refine ⟨t,g1,g2,Ev.step (fun k => sconceref03_Inverse.l0.eq_2 ..) (ev_pos (by rw [big_length];omega) (ev_bind0 (sp_ref_DivMod (by omega) (by omega) hz) (ev_bind (sp_MulMod (by omega) hq bt1 bm) (ev_bind (sp_SubMod bt0 bm hy) ?_))))⟩
      rw [← hs]
      exact g3
theorem gcd_one {a m y:Nat} {c:Int} (h:(a:Int) * y = 1 + m * c):Nat.gcd m a = 1:=by
  have h1:((Nat.gcd m a:Nat):Int) ∣ 1:=by
    have d1:((Nat.gcd m a:Nat):Int) ∣ (a:Int) * y:=Int.dvd_trans (Int.natCast_dvd_natCast.2 (Nat.gcd_dvd_right m a)) (Int.dvd_mul_right _ _)
    have d2:((Nat.gcd m a:Nat):Int) ∣ (m:Int) * c:=Int.dvd_trans (Int.natCast_dvd_natCast.2 (Nat.gcd_dvd_left m a)) (Int.dvd_mul_right _ _)
    rw [h] at d1
    have:=Int.dvd_sub d1 d2
    rwa [Int.add_sub_cancel] at this
  exact Nat.dvd_one.1 (Int.natCast_dvd_natCast.1 h1)
theorem sp_ref_Inv {a m y:Nat} {c:Int} (hm:1 < m) (bm:blen m≤10000) (ha:a < m) (hy:(a:Int) * y = 1 + m * c):∃ t,t < m∧(∃ c:Int,(t:Int) * a = 1 + m * c)∧Ev (fun k => sconceref03_Inverse.f k (big a) (big m)) (big t,true):=by
  have ba:=Nat.le_trans (blen_mono (Nat.le_of_lt ha)) bm
  have hmod:sconceref03_Mod.f (big a) (big m) = some (big a):=by
    unfold sconceref03_Mod.f
    rw [sp_ref_DivMod (by omega) (by omega) (by omega),Nat.mod_eq_of_lt ha]
    rfl
  obtain ⟨t,h1,h2,h3⟩:=inv_loop (a:=a) hm bm (a + 1) m a 0 1 (by omega) (Nat.le_refl _) (Nat.le_of_lt ha) (by omega) hm ⟨-1,by omega⟩ ⟨0,by omega⟩ (gcd_one hy)
  refine ⟨t,h1,h2,?_⟩
  unfold sconceref03_Inverse.f
  exact ev_bind0 hmod (ev_bind (sp_Small (w:=1) (by decide)) h3)
end Go.Proofs.Ytalfniohakahlaa.X
end
section
namespace Go.Proofs.Ytalfniohakahlaa.X
open Go.RowKit Go.Proofs.YtalfniohakahlaaW.PrintWords Go.Proofs.YtalfniohakahlaaW.PrintLast Go.Proofs.Ytalfniohakahlaa.Ma
set_option linter.unusedVariables false
set_option linter.unusedSimpArgs false
theorem pow_inv {M j:Nat} (ho:M % 2 = 1) (h1:1 < M):(2 ^ j % M * ((M + 1) / 2) ^ j) % M = 1:=by
  rw [Nat.mul_mod,Nat.mod_mod,← Nat.mul_mod,← Nat.mul_pow,show 2 * ((M + 1) / 2) = M + 1 by omega,Nat.pow_mod,Nat.add_mod_left,← Nat.pow_mod,Nat.one_pow,Nat.mod_eq_of_lt h1]
theorem inv_W {M n:Nat} (ho:M % 2 = 1) (h1:1 < M) (bm:blen M≤10000):∃ t,t < M∧(t * 18446744073709551616 ^ n) % M = 1∧Ev (fun k => sconceref03_Inverse.f k (big (18446744073709551616 ^ n % M)) (big M)) (big t,true):=by
  have e:18446744073709551616 ^ n = 2 ^ (64 * n):=by rw [Nat.pow_mul]
  have hp:=pow_inv (j:=64 * n) ho h1
  rw [← e] at hp
  have hd:=Nat.div_add_mod (18446744073709551616 ^ n % M * ((M + 1) / 2) ^ (64 * n)) M
  rw [hp] at hd
  obtain ⟨t,g1,⟨c,g2⟩,g3⟩:=sp_ref_Inv (a:=18446744073709551616 ^ n % M) (m:=M) (y:=((M + 1) / 2) ^ (64 * n)) (c:=((18446744073709551616 ^ n % M * ((M + 1) / 2) ^ (64 * n) / M:Nat):Int)) h1 bm (Nat.mod_lt _ (by omega)) (by
    rw [← Int.natCast_mul,← Int.natCast_mul]
    have:((M * (18446744073709551616 ^ n % M * ((M + 1) / 2) ^ (64 * n) / M) + 1:Nat):Int) = ((18446744073709551616 ^ n % M * ((M + 1) / 2) ^ (64 * n):Nat):Int):=by rw [hd]
    rw [Int.natCast_add] at this
    have o1:((1:Nat):Int) = 1:=rfl
    omega)
  refine ⟨t,g1,?_,g3⟩
  have h2:((t * (18446744073709551616 ^ n % M):Nat):Int) % (M:Int) = 1:=by
    rw [Int.natCast_mul,g2,Int.add_mul_emod_self_left]
    exact Int.emod_eq_of_lt (by decide) (by omega)
  have h3:(t * (18446744073709551616 ^ n % M)) % M = 1:=by
    rw [← Int.natCast_emod] at h2
    omega
  rw [← h3,Nat.mul_mod t (18446744073709551616 ^ n % M),Nat.mod_mod,← Nat.mul_mod]
theorem sp_ref6_Member {m rr r:List Int} {K:Int} (hm:Wd m) (lm:m.length≤1000) (hr:Wd r):Ev (fun k => sconceref06_Member.f k m K rr r) (memB m r):=by
  unfold sconceref06_Member.f memB
  by_cases h1:r.length = m.length
  · have b:=blen_nW hr
    rw [decide_eq_true h1,Bool.true_and]
    refine ev_pos (by omega) (ev_bind (sp_OfW hr (by omega)) (ev_bind (sp_OfW hm (by omega)) (ev_bind (sp_Cmp (by omega)) (ev_const ?_))))
    congr 1
    unfold cmpI
    by_cases h2:nW r < nW m
    · rw [if_pos h2,decide_eq_true h2]
      rfl
    · rw [if_neg h2,decide_eq_false h2]
      split <;> rfl
  · rw [decide_eq_false h1,Bool.false_and]
    exact ev_neg (by omega) (ev_const rfl)
theorem sp_ref6_shift {m rr:List Int} {K:Int} (h:IsMod m K rr):∃ t,t < nW m∧(t * 18446744073709551616 ^ m.length) % nW m = 1∧Ev (fun k => sconceref06_shift.f k m K rr (-1)) (big t):=by
  have hl:=h.len
  have hw:=h.2.1
  have bm:=blen_nW h.1
  have h1:=h.2.2.1
  obtain ⟨t,g1,g2,g3⟩:=inv_W (n:=m.length) h.2.2.2.1 h1 (by omega)
  refine ⟨t,g1,g2,?_⟩
  have e1:wrap64 (64 * (m.length:Int)) = ((64 * m.length:Nat):Int):=by rw [w64 (by omega) (by omega)];omega
  have hSh:=sp_Shl (x:=1) (n:=64 * m.length) (by decide) (by omega)
  rw [Nat.one_mul,Nat.pow_mul] at hSh
  have hb:=blen_Wpow m.length
  unfold sconceref06_shift.f
  rw [e1]
  refine ev_bind (sp_OfW h.1 (by omega)) (ev_bind (sp_Small (w:=1) (by decide)) (ev_bind hSh (ev_bind0 (a:=big (18446744073709551616 ^ m.length % nW m)) ?_ (ev_pos (by decide) (ev_bind g3 (ev_const rfl))))))
  unfold sconceref03_Mod.f
  rw [show (2 ^ 64) ^ m.length = 18446744073709551616 ^ m.length from rfl,sp_ref_DivMod (by omega) (by omega) (by omega)]
  rfl
theorem sp_ref6_times {m rr a b:List Int} {K:Int} {t:Nat} (h:IsMod m K rr) (ha:Wd a) (hb:Wd b) (ht:t < nW m) (la:a.length≤1000) (lb:b.length≤1000) :
    Ev (fun k => sconceref06_times.f k m K rr (big t) [a,b]) (if memB m a && memB m b then (wds m.length (t * nW a % nW m * nW b % nW m),0) else ([],1)):=by
  have hl:=h.len
  have hw:=h.2.1
  have bm:=blen_nW h.1
  have h1:=h.2.2.1
  have bt:=blen_mono (Nat.le_of_lt ht)
  have ba:=blen_nW ha
  have bb:=blen_nW hb
  have hck:Ev (fun k => sconceref06_Check.f k m K rr) true:=by
    obtain ⟨R,g1,g2⟩:=sp_ref6_Check (rr:=rr) (K:=K) h.1 (by omega)
    have e:R = (wds (wlen (nW m)) (nW m),K,wds (wlen (nW m)) (18446744073709551616 ^ (2 * wlen (nW m)) % nW m),0):=g1.uniq (.inr (.inr (.inr ⟨h.2.1,h.2.2.1,h.2.2.2.1,K,h.2.2.2.2.1,rfl⟩)))
    have ec:chkB R m K rr = true:=by
      rw [e]
      unfold chkB
      simp only
      rw [if_pos trivial,if_pos h.2.2.2.2.2.1.symm,if_pos trivial,decide_eq_true h.2.2.2.2.2.2.symm]
    rw [ec] at g2
    exact g2
  have hx1:t * nW a % nW m < nW m:=Nat.mod_lt _ (by omega)
  have hx2:t * nW a % nW m * nW b % nW m < nW m:=Nat.mod_lt _ (by omega)
  have bx1:=blen_mono (Nat.le_of_lt hx1)
  have bx2:=blen_mono (Nat.le_of_lt hx2)
  have e0:wrap64 ((0:Int) + 1) = 1:=by rw [w64 (by decide) (by decide)];rfl
  have e1:wrap64 ((1:Int) + 1) = 2:=by rw [w64 (by decide) (by decide)];rfl
  have l0:rd_L2 [a,b] 0 = a:=rfl
  have l1:rd_L2 [a,b] 1 = b:=rfl
  unfold sconceref06_times.f
  refine ev_bind hck (ev_pos rfl (ev_bind (sp_OfW h.1 (by omega)) ?_))
  refine Ev.step (fun k => sconceref06_times.l0.eq_2 ..) (ev_pos (by simp) (ev_pos (by simp) (ev_pos (by simp) ?_)))
  rw [l0,e0]
  refine ev_bind (sp_ref6_Member h.1 (by omega) ha) ?_
  by_cases hma:memB m a = true
  · rw [hma,Bool.true_and]
    refine ev_pos rfl (ev_bind (sp_OfW ha (by omega)) (ev_bind (sp_MulMod (by omega) (by omega) (by omega) (by omega)) ?_))
    refine Ev.step (fun k => sconceref06_times.l0.eq_2 ..) (ev_pos (by simp) (ev_pos (by simp) (ev_pos (by simp) ?_)))
    rw [l1,e1]
    refine ev_bind (sp_ref6_Member h.1 (by omega) hb) ?_
    by_cases hmb:memB m b = true
    · rw [hmb]
      refine ev_pos rfl (ev_bind (sp_OfW hb (by omega)) (ev_bind (sp_MulMod (by omega) (by omega) (by omega) (by omega)) ?_))
      refine Ev.step (fun k => sconceref06_times.l0.eq_2 ..) (ev_neg (by simp) (ev_bind0 (a:=big (t * nW a % nW m * nW b % nW m)) ?_ (ev_bind (sp_Nat (by omega)) (ev_const ?_))))
      · unfold sconceref03_Mod.f
        rw [sp_ref_DivMod (by omega) (by omega) (by omega),Nat.mod_mod]
        rfl
      · rw [Int.toNat_natCast]
        rfl
    · rw [Bool.not_eq_true] at hmb
      rw [hmb]
      exact ev_neg (by decide) (ev_const rfl)
  · rw [Bool.not_eq_true] at hma
    rw [hma,Bool.false_and]
    exact ev_neg (by decide) (ev_const rfl)
theorem isMod_of_chk {m rr:List Int} {K:Int} {R:List Int × Int × List Int × Int} (h:SetR (nW m) R) (hc:chkB R m K rr = true):IsMod m K rr:=by
  unfold chkB at hc
  by_cases e1:R.2.2.2 = 0
  · rw [if_pos e1] at hc
    by_cases e2:R.1 = m
    · rw [if_pos e2] at hc
      by_cases e3:R.2.1 = K
      · rw [if_pos e3] at hc
        have e4:=of_decide_eq_true hc
        have:=(IsMod.of h e1).1
        rw [e2,e3,e4] at this
        exact this
      · rw [if_neg e3] at hc
        exact absurd hc (by decide)
    · rw [if_neg e2] at hc
      exact absurd hc (by decide)
  · rw [if_neg e1] at hc
    exact absurd hc (by decide)
end Go.Proofs.Ytalfniohakahlaa.X
end
section
namespace Go.Proofs.Ytalfniohakahlaa.Pure
open Go.RowKit Go.Proofs.Ytalfniohakahlaa.X Go.Proofs.YtalfniohakahlaaW.PrintWords Go.Proofs.YtalfniohakahlaaW.PrintLast Go.Proofs.Ytalfniohakahlaa.Ma
set_option linter.unusedVariables false
set_option linter.unusedSimpArgs false
theorem MontMuls:sconcelaw06_MontMuls.PureS:=by
  intro m K rr a b _ hm _ _ _ _ ha _ hb
  rw [wf_Wd] at hm ha hb
  refine Ev.rounds ?_
  unfold sconcelaw06_MontMuls.f
  refine ev_bind awake6 (ev_pos rfl (ev_bind (sp_few6 _ _ _ _ (by simp)) ?_))
  by_cases h:(fewB 40 [m,rr] && fewB 40 [a,b]) = true
  · have h':(m.length≤40∧rr.length≤40)∧a.length≤40∧b.length≤40:=by simpa [fewB] using h
    refine ev_pos h ?_
    obtain ⟨R,r1,r2⟩:=sp_mont_Check (rr:=rr) (K:=K) hm (by omega)
    obtain ⟨S,s1,s2⟩:=sp_ref6_Check (rr:=rr) (K:=K) hm (by omega)
    obtain rfl:=r1.uniq s1
    by_cases hc:chkB R m K rr = true
    · have hI:=isMod_of_chk r1 hc
      rw [hc] at s2
      obtain ⟨t,t1,t2,t3⟩:=sp_ref6_shift hI
      have hT:=sp_ref6_times (a:=a) (b:=b) hI ha hb t1 (by omega) (by omega)
      have hR:Ev (fun k => sconceref06_Mul.f k m K rr a b) (if memB m a && memB m b then (wds m.length (t * nW a % nW m * nW b % nW m),0) else ([],1)):=by
        unfold sconceref06_Mul.f
        exact ev_bind s2 (ev_pos rfl (ev_bind t3 hT))
      by_cases hma:memB m a = true
      · by_cases hmb:memB m b = true
        · obtain ⟨r,q1,q2,q3⟩:=sp_mont_Mul hI ha hb hma hmb
          rw [hma,hmb] at hR
          have h1:=hI.2.2.1
          have e:r = t * nW a % nW m * nW b % nW m:=by
            rw [← Nat.mod_eq_of_lt q1]
            have hlt:t * nW a % nW m * nW b % nW m < nW m:=Nat.mod_lt _ (by omega)
            rw [← Nat.mod_eq_of_lt hlt]
            refine mp_invW hI.2.2.2.1 (n:=m.length) ?_
            rw [q2,Nat.mul_mod (t * nW a % nW m * nW b % nW m),Nat.mod_mod,← Nat.mul_mod,Nat.mul_assoc,Nat.mul_mod (t * nW a % nW m),Nat.mod_mod,← Nat.mul_mod]
            have e3:t * nW a * (nW b * 18446744073709551616 ^ m.length) = t * 18446744073709551616 ^ m.length * (nW a * nW b):=by ac_rfl
            rw [e3,Nat.mul_mod (t * _),t2,Nat.one_mul,Nat.mod_mod]
          rw [e] at q3
          exact ev_bind q3 (ev_bind hR (ev_pos rfl (ev_bind (sp_Same (by simp only [dgs_length];omega)) (ev_const (by simp)))))
        · rw [Bool.not_eq_true] at hmb
          rw [hma,hmb] at hR
          exact ev_bind (sp_mont_Mul_no hI ha hb (by rw [hma,hmb];rfl)) (ev_bind hR (ev_pos rfl (ev_bind (sp_Same (by simp)) (ev_const (by simp)))))
      · rw [Bool.not_eq_true] at hma
        rw [hma] at hR
        exact ev_bind (sp_mont_Mul_no hI ha hb (by rw [hma];rfl)) (ev_bind hR (ev_pos rfl (ev_bind (sp_Same (by simp)) (ev_const (by simp)))))
    · rw [Bool.not_eq_true] at hc
      rw [hc] at r2 s2
      refine ev_bind (a:=([],1)) ?_ (ev_bind (a:=([],1)) ?_ (ev_pos rfl (ev_bind (sp_Same (by simp)) (ev_const (by simp)))))
      · unfold mont_Mul.f
        refine ev_bind (a:=false) ?_ (ev_neg (by decide) (ev_const rfl))
        unfold mont_members.f
        exact ev_bind r2 (ev_neg (by decide) (ev_const rfl))
      · unfold sconceref06_Mul.f
        exact ev_bind s2 (ev_neg (by decide) (ev_const rfl))
  · exact ev_neg h (ev_const rfl)
end Go.Proofs.Ytalfniohakahlaa.Pure
end
