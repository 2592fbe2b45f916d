/- Texts of the walk and of the plain laws, laid together by a program: PsRingReduces, Sp6a, Sp6b, Sp6r, Sp6j, Sp7b, PureRingReduces. -/
import Derived.Test.YtonpekldcnankaaZJ0
import Derived.Test.YtonpekldcnankaaZJ1
import Derived.Test.YtonpekldcnankaaZJ2
import Derived.Test.YtonpekldcnankaaZJ5
import Derived.Test.YtonpekldcnankaaZJ6
import Derived.Test.YtonpekldcnankaaZJ9
import Derived.Test.YtonpekldcnankaaZJ15
import Derived.Test.YtonpekldcnankaaZJ16
import Derived.Test.YtonpekldcnankaaZJ20
import Derived.Test.YtonpekldcnankaaZJ17
import Derived.Test.YtonpekldcnankaaZJ25
import Derived.Test.YtonpekldcnankaaZJ26
import Derived.Test.YtonpekldcnankaaZJ27
import Derived.Test.YtonpekldcnankaaZJ32
import Derived.Test.YtonpekldcnankaaZJ33
import Derived.Test.YtonpekldcnankaaZJ35
import Derived.Test.YtonpekldcnankaaZJ36
import Derived.Test.YtonpekldcnankaaZJ37
import Derived.Test.YtonpekldcnankaaZJ38
import Derived.Test.YtonpekldcnankaaZJ39
import Derived.Test.YtonpekldcnankaaZJ40
import Derived.Test.YtonpekldcnankaaZJ41
section
namespace Go.Proofs.Ytonpekldcnankaa.X
open Go.RowKit
def sconcelaw07_RingReduces.PureS:Prop:=∀ (l0_0:List Int) (b0_1:Int) (l0_2:List Int) (l1:List Int),l0_0.length≤maxLen→(∀ x ∈ l0_0,(Lit.int .u64 x).wf = true)→(Lit.int .u64 b0_1).wf = true→l0_2.length≤maxLen→(∀ x ∈ l0_2,(Lit.int .u64 x).wf = true)→l1.length≤maxLen→(∀ x ∈ l1,(Lit.int .u64 x).wf = true)→∃ k,sconcelaw07_RingReduces.f k l0_0 b0_1 l0_2 l1 = some true
end Go.Proofs.Ytonpekldcnankaa.X
end
section
namespace Go.Proofs.Ytonpekldcnankaa.X
open Go.RowKit Go.Proofs.YtonpekldcnankaaW.PrintWords Go.Proofs.YtonpekldcnankaaW.PrintLast Go.Proofs.Ytonpekldcnankaa.Ma
set_option linter.unusedVariables false
set_option linter.unusedSimpArgs false
def IsK (M:Nat) (K:Int):Prop:=∃ x:Int,Inv64 ((M % 18446744073709551616:Nat):Int) x∧K = IntKind.u64.wrap (-x)
theorem IsK.uniq {M:Nat} {K L:Int} (h:IsK M K) (g:IsK M L):K = L:=by
  obtain ⟨x,hx,rfl⟩:=h
  obtain ⟨y,hy,rfl⟩:=g
  rw [hx.uniq hy]
def SetR (M:Nat) (R:List Int × Int × List Int × Int):Prop :=
  (130 < wlen M∧R = ([],0,[],2))∨(wlen M≤130∧M≤1∧R = ([],0,[],1))∨(wlen M≤130∧1 < M∧M % 2 = 0∧R = ([],0,[],60)) ∨
  (wlen M≤130∧1 < M∧M % 2 = 1∧∃ K,IsK M K∧R = (wds (wlen M) M,K,wds (wlen M) (18446744073709551616 ^ (2 * wlen M) % M),0))
theorem SetR.uniq {M:Nat} {R S:List Int × Int × List Int × Int} (h:SetR M R) (g:SetR M S):R = S:=by
  rcases h with ⟨h1,rfl⟩ | ⟨h1,h2,rfl⟩ | ⟨h1,h2,h3,rfl⟩ | ⟨h1,h2,h3,K,hK,rfl⟩ <;> rcases g with ⟨g1,rfl⟩ | ⟨g1,g2,rfl⟩ | ⟨g1,g2,g3,rfl⟩ | ⟨g1,g2,g3,L,hL,rfl⟩ <;> first | rfl | (exfalso;omega) | (rw [hK.uniq hL])
theorem at0_first {l:List Int} (h:Wd l):at0 l 0 = ((nW l % 18446744073709551616:Nat):Int):=by
  have:=at0_num (B:=18446744073709551616) (by decide) h 0
  rw [Nat.pow_zero,Nat.div_one] at this
  exact this
theorem wd_mod (M:Nat):wd ((M % 18446744073709551616:Nat):Int) = true:=wd_iff.2 ⟨by omega,by omega⟩
theorem sp_mont_Setup {l:List Int} (h:Wd l) (hl:l.length≤1000):∃ R,SetR (nW l) R∧Ev (fun k => mont_Setup.f k l) R:=by
  have hc:l.all wd = true∧l.length≤1000:=⟨wd_all.2 h,hl⟩
  unfold mont_Setup.f
  simp only [if_pos hc]
  by_cases h1:130 < wlen (nW l)
  · exact ⟨_,.inl ⟨h1,rfl⟩,ev_pos h1 (ev_const rfl)⟩
  · by_cases h2:nW l≤1
    · exact ⟨_,.inr (.inl ⟨by omega,h2,rfl⟩),ev_neg h1 (ev_pos h2 (ev_const rfl))⟩
    · by_cases h3:nW l % 2 = 0
      · exact ⟨_,.inr (.inr (.inl ⟨by omega,by omega,h3,rfl⟩)),ev_neg h1 (ev_neg h2 (ev_pos h3 (ev_const rfl)))⟩
      · obtain ⟨x,hx,he⟩:=sp_word_Inverse (wd_mod (nW l))
        rw [← at0_first h] at he
        exact ⟨_,.inr (.inr (.inr ⟨by omega,by omega,by omega,_,⟨x,hx,rfl⟩,rfl⟩)),ev_neg h1 (ev_neg h2 (ev_neg h3 (ev_bind he (ev_const rfl))))⟩
theorem rd_big0 {M:Nat}:rd (big M) 0 = ((M % 4294967296:Nat):Int):=by
  have:=rdA (big M) 0
  rw [at0_big,Nat.pow_zero,Nat.div_one] at this
  exact this
theorem blen_wlen (M:Nat):blen M≤2 * wlen M:=blen_le (by rw [← W_pow];exact wlen_lt M)
theorem ref6_j {l:List Int} (h:Wd l) (hl:l.length≤1000):∃ R,SetR (nW l) R∧Ev (fun k => sconceref06_Setup.j1 k l ((wlen (nW l):Nat):Int)) R:=by
  have hwl:=wlen_nW h
  have hb:=blen_wlen (nW l)
  have htk:nW (l.take (wlen (nW l))) = nW l:=by
    show num _ _ = _
    rw [num_take h]
    exact Nat.mod_eq_of_lt (wlen_lt _)
  have htw:Wd (l.take (wlen (nW l))):=fun x hx => h x (List.mem_of_mem_take hx)
  have htl:(l.take (wlen (nW l))).length≤1000:=by rw [List.length_take];omega
  by_cases h1:130 < wlen (nW l)
  · exact ⟨_,.inl ⟨h1,rfl⟩,Ev.step (fun k => sconceref06_Setup.j1.eq_2 ..) (ev_pos (by omega) (ev_const rfl))⟩
  · have hO:=sp_OfW htw (by omega)
    rw [htk] at hO
    have hC:=sp_Cmp (x:=nW l) (y:=2) (by omega)
    have hS:=sp_Small (w:=2) (by decide)
    by_cases h2:nW l≤1
    · refine ⟨_,.inr (.inl ⟨by omega,h2,rfl⟩),Ev.step (fun k => sconceref06_Setup.j1.eq_2 ..) (ev_neg (by omega) (ev_pos (by omega) (ev_pos (by omega) ?_)))⟩
      rw [Int.toNat_natCast]
      refine ev_bind hO (ev_bind hS (ev_bind hC (ev_pos ?_ (ev_const rfl))))
      unfold cmpI
      rw [if_pos (by omega)]
      decide
    · have hcm:¬ (cmpI (nW l) 2 < 0):=by
        unfold cmpI
        rw [if_neg (by omega)]
        split <;> decide
      have hbp:=blen_pos (x:=nW l) (by omega)
      have hmod:Int.tmod (rd (big (nW l)) 0) 2 = ((nW l % 2:Nat):Int):=by
        rw [rd_big0,Int.tmod_eq_emod_of_nonneg (by omega)]
        omega
      by_cases h3:nW l % 2 = 0
      · refine ⟨_,.inr (.inr (.inl ⟨by omega,by omega,h3,rfl⟩)),Ev.step (fun k => sconceref06_Setup.j1.eq_2 ..) (ev_neg (by omega) (ev_pos (by omega) (ev_pos (by omega) ?_)))⟩
        rw [Int.toNat_natCast]
        refine ev_bind hO (ev_bind hS (ev_bind hC (ev_neg hcm (ev_pos (by rw [big_length];omega) (ev_pos (by rw [hmod,h3];rfl) (ev_const rfl))))))
      · obtain ⟨x,hx,he⟩:=sp_ref_Inverse (wd_mod (nW l))
        have hL:=sp_Least (x:=nW l) (by omega)
        have hwp:=wlen_pos (x:=nW l) (by omega)
        rw [show max (wlen (nW l)) 1 = wlen (nW l) by omega] at hL
        have hrd:rd (wds (wlen (nW l)) (nW l)) 0 = ((nW l % 18446744073709551616:Nat):Int):=by
          have:=rdA (wds (wlen (nW l)) (nW l)) 0
          rw [at0_dgs (nW l) hwp,Nat.pow_zero,Nat.div_one] at this
          exact this
        have e1:wrap64 (128 * ((wlen (nW l):Nat):Int)) = ((128 * wlen (nW l):Nat):Int):=by rw [w64 (by omega) (by omega)];omega
        have hSh:=sp_Shl (x:=1) (n:=128 * wlen (nW l)) (by decide) (by omega)
        rw [Nat.one_mul] at hSh
        have hpw:(2:Nat) ^ (128 * wlen (nW l)) = 18446744073709551616 ^ (2 * wlen (nW l)):=by
          rw [show 128 * wlen (nW l) = 64 * (2 * wlen (nW l)) by omega,Nat.pow_mul]
        rw [hpw] at hSh
        have hbw:blen (18446744073709551616 ^ (2 * wlen (nW l)))≤1000:=by have:=blen_Wpow (2 * wlen (nW l));omega
        have hM:sconceref03_Mod.f (big (18446744073709551616 ^ (2 * wlen (nW l)))) (big (nW l)) = some (big (18446744073709551616 ^ (2 * wlen (nW l)) % nW l)):=by
          unfold sconceref03_Mod.f
          rw [sp_ref_DivMod (by omega) (by omega) (by omega)]
          rfl
        have hN:=sp_Nat (x:=18446744073709551616 ^ (2 * wlen (nW l)) % nW l) (n:=((wlen (nW l):Nat):Int)) (by omega)
        rw [Int.toNat_natCast] at hN
        refine ⟨_,.inr (.inr (.inr ⟨by omega,by omega,by omega,_,⟨x,hx,rfl⟩,rfl⟩)),Ev.step (fun k => sconceref06_Setup.j1.eq_2 ..) (ev_neg (by omega) (ev_pos (by omega) (ev_pos (by omega) ?_)))⟩
        rw [Int.toNat_natCast]
        refine ev_bind hO (ev_bind hS (ev_bind hC (ev_neg hcm (ev_pos (by rw [big_length];omega) (ev_neg (by rw [hmod];omega) (ev_bind hL (ev_pos (by rw [dgs_length];omega) ?_)))))))
        rw [hrd,e1]
        exact ev_bind he (ev_bind (sp_Small (w:=1) (by decide)) (ev_bind hSh (ev_bind0 hM (ev_bind hN (ev_const rfl)))))
theorem ref6_loop {l:List Int} (h:Wd l) (hl:l.length≤1000):∀ n:Nat,n≤l.length→nW l < 18446744073709551616 ^ n→∃ R,SetR (nW l) R∧Ev (fun k => sconceref06_Setup.l0 k l (n:Int)) R:=by
  intro n
  induction n with
  | zero =>
    intro _ hM
    obtain ⟨R,h1,h2⟩:=ref6_j h hl
    have hd:=st_done h hM (.inl rfl)
    rw [← hd] at h2
    exact ⟨R,h1,Ev.step (fun k => sconceref06_Setup.l0.eq_2 ..) (ev_neg (by omega) h2)⟩
  | succ n ih =>
    intro hn hM
    have e1:wrap64 (((n + 1:Nat):Int) - 1) = (n:Int):=by rw [w64 (by omega) (by omega)];omega
    by_cases hz:at0 l n = 0
    · obtain ⟨R,h1,h2⟩:=ih (by omega) (by have:=st_less h (n:=n + 1) (by omega) hM (by rw [Nat.add_sub_cancel];exact hz);rw [Nat.add_sub_cancel] at this;exact this)
      refine ⟨R,h1,Ev.step (fun k => sconceref06_Setup.l0.eq_2 ..) (ev_pos (by omega) ?_)⟩
      rw [e1,rdA]
      exact ev_pos (by omega) (ev_pos (by omega) (ev_pos hz h2))
    · obtain ⟨R,h1,h2⟩:=ref6_j h hl
      have hd:=st_done h hM (.inr (by rw [Nat.add_sub_cancel];exact hz))
      rw [← hd] at h2
      refine ⟨R,h1,Ev.step (fun k => sconceref06_Setup.l0.eq_2 ..) (ev_pos (by omega) ?_)⟩
      rw [e1,rdA]
      exact ev_pos (by omega) (ev_pos (by omega) (ev_neg hz h2))
theorem sp_ref6_Setup {l:List Int} (h:Wd l) (hl:l.length≤1000):∃ R,SetR (nW l) R∧Ev (fun k => sconceref06_Setup.f k l) R:=ref6_loop h hl l.length (Nat.le_refl _) (nW_lt h)
theorem SetR.len {M:Nat} {R:List Int × Int × List Int × Int} (h:SetR M R):R.1.length≤130∧R.2.2.1.length≤130:=by
  rcases h with ⟨h1,rfl⟩ | ⟨h1,h2,rfl⟩ | ⟨h1,h2,h3,rfl⟩ | ⟨h1,h2,h3,K,hK,rfl⟩
  · simp
  · simp
  · simp
  · simp only [dgs_length]
    exact ⟨h1,h1⟩
end Go.Proofs.Ytonpekldcnankaa.X
end
section
namespace Go.Proofs.Ytonpekldcnankaa.X
open Go.RowKit Go.Proofs.YtonpekldcnankaaW.PrintWords Go.Proofs.YtonpekldcnankaaW.PrintLast Go.Proofs.Ytonpekldcnankaa.Ma
set_option linter.unusedVariables false
set_option linter.unusedSimpArgs false
theorem slices_Equal_loop (a b:List Int) (hn:a.length≤1000000000000) (hl:a.length = b.length):∀ (d i:Nat),i + d = a.length→(∀ j,j < i→at0 a j = at0 b j) →
    Ev (fun k => api_Nat_uint64_111.l0 k a b (a.length:Int) (i:Int)) (decide (a = b)):=by
  intro d
  induction d with
  | zero =>
    intro i hi h
    refine Ev.step (fun k => by rw [api_Nat_uint64_111.l0]) (ev_neg (by omega) (ev_const ?_))
    have:a = b:=ext_at0 hl (fun j hj => h j (by omega))
    simp [this]
  | succ d ih =>
    intro i hi h
    refine Ev.step (fun k => by rw [api_Nat_uint64_111.l0,w64_succ (by omega),rdA,rdA]) ?_
    refine ev_pos (by omega) (ev_pos (by omega) (ev_pos (by omega) (ev_pos (by omega) ?_)))
    by_cases he:at0 a i = at0 b i
    · exact ev_pos he (ih (i + 1) (by omega) (fun j hj => by
        by_cases e:j = i
        · subst e;exact he
        · exact h j (by omega)))
    · refine ev_neg he (ev_const ?_)
      have:¬ a = b:=fun e => he (by rw [e])
      simp [this]
theorem sp_slices_Equal {a b:List Int} (hn:a.length≤1000000000000):Ev (fun k => api_Nat_uint64_111.f k a b) (decide (a = b)):=by
  unfold api_Nat_uint64_111.f
  by_cases h:a.length = b.length
  · exact ev_pos (by omega) (slices_Equal_loop a b hn h a.length 0 (by omega) (fun j hj => absurd hj (by omega)))
  · refine ev_neg (by omega) (ev_const ?_)
    have:¬ a = b:=fun e => h (by rw [e])
    simp [this]
def chkB (R:List Int × Int × List Int × Int) (m:List Int) (K:Int) (rr:List Int):Bool:=if R.2.2.2 = 0 then (if R.1 = m then (if R.2.1 = K then decide (R.2.2.1 = rr) else false) else false) else false
theorem sp_mont_Check {m rr:List Int} {K:Int} (h:Wd m) (hl:m.length≤1000):∃ R,SetR (nW m) R∧Ev (fun k => mont_Check.f k m K rr) (chkB R m K rr):=by
  obtain ⟨R,h1,h2⟩:=sp_mont_Setup h hl
  have hn:=h1.len
  refine ⟨R,h1,?_⟩
  unfold mont_Check.f chkB
  refine ev_bind h2 ?_
  by_cases e1:R.2.2.2 = 0
  · rw [if_pos e1]
    refine ev_pos e1 (ev_bind (sp_slices_Equal (by omega)) ?_)
    by_cases e2:R.1 = m
    · rw [if_pos e2]
      refine ev_pos (decide_eq_true e2) ?_
      by_cases e3:R.2.1 = K
      · rw [if_pos e3]
        exact ev_pos e3 (ev_bind (sp_slices_Equal (by omega)) (ev_const rfl))
      · rw [if_neg e3]
        exact ev_neg e3 (ev_const rfl)
    · rw [if_neg e2]
      exact ev_neg (by rw [decide_eq_false e2];decide) (ev_const rfl)
  · rw [if_neg e1]
    exact ev_neg e1 (ev_const rfl)
theorem sp_ref6_Check {m rr:List Int} {K:Int} (h:Wd m) (hl:m.length≤1000):∃ R,SetR (nW m) R∧Ev (fun k => sconceref06_Check.f k m K rr) (chkB R m K rr):=by
  obtain ⟨R,h1,h2⟩:=sp_ref6_Setup h hl
  have hn:=h1.len
  refine ⟨R,h1,?_⟩
  unfold sconceref06_Check.f chkB
  refine ev_bind h2 ?_
  by_cases e1:R.2.2.2 = 0
  · rw [if_pos e1]
    refine ev_pos e1 (ev_bind (sp_Same (by omega)) ?_)
    by_cases e2:R.1 = m
    · rw [if_pos e2]
      refine ev_pos (decide_eq_true e2) ?_
      by_cases e3:R.2.1 = K
      · rw [if_pos e3]
        exact ev_pos e3 (ev_bind (sp_Same (by omega)) (ev_const rfl))
      · rw [if_neg e3]
        exact ev_neg e3 (ev_const rfl)
    · rw [if_neg e2]
      exact ev_neg (by rw [decide_eq_false e2];decide) (ev_const rfl)
  · rw [if_neg e1]
    exact ev_neg e1 (ev_const rfl)
end Go.Proofs.Ytonpekldcnankaa.X
end
section
namespace Go.Proofs.Ytonpekldcnankaa.X
open Go.RowKit Go.Proofs.YtonpekldcnankaaW.PrintWords Go.Proofs.YtonpekldcnankaaW.PrintLast Go.Proofs.Ytonpekldcnankaa.Ma
set_option linter.unusedVariables false
set_option linter.unusedSimpArgs false
def memB (m r:List Int):Bool:=decide (r.length = m.length) && decide (nW r < nW m)
def IsMod (m:List Int) (K:Int) (rr:List Int):Prop:=Wd m∧wlen (nW m)≤130∧1 < nW m∧nW m % 2 = 1∧IsK (nW m) K∧m = wds (wlen (nW m)) (nW m)∧rr = wds (wlen (nW m)) (18446744073709551616 ^ (2 * wlen (nW m)) % nW m)
theorem IsMod.len {m rr:List Int} {K:Int} (h:IsMod m K rr):m.length = wlen (nW m):=by
  have:=h.2.2.2.2.2.1
  conv => lhs;rw [this]
  exact dgs_length _ _ _
theorem IsMod.of {M:Nat} {R:List Int × Int × List Int × Int} (h:SetR M R) (he:R.2.2.2 = 0):IsMod R.1 R.2.1 R.2.2.1∧nW R.1 = M:=by
  rcases h with ⟨_,rfl⟩ | ⟨_,_,rfl⟩ | ⟨_,_,_,rfl⟩ | ⟨h1,h2,h3,K,hK,rfl⟩
  · exact absurd he (by decide)
  · exact absurd he (by decide)
  · exact absurd he (by decide)
  · have e:nW (wds (wlen M) M) = M:=nW_wds (wlen_lt M)
    refine ⟨⟨wds_Wd _ _,?_⟩,e⟩
    simp only [e]
    exact ⟨h1,h2,h3,hK,trivial,trivial⟩
theorem IsMod.rr {m rr:List Int} {K:Int} (h:IsMod m K rr):Wd rr∧memB m rr = true∧nW rr = 18446744073709551616 ^ (2 * m.length) % nW m:=by
  have hl:=h.len
  have h3:=h.2.2.1
  have e:=h.2.2.2.2.2.2
  rw [← hl] at e
  have hlt:18446744073709551616 ^ (2 * m.length) % nW m < nW m:=Nat.mod_lt _ (by omega)
  have hn:nW rr = 18446744073709551616 ^ (2 * m.length) % nW m:=by
    rw [e]
    exact nW_wds (Nat.lt_trans hlt (nW_lt h.1))
  refine ⟨by rw [e];exact wds_Wd _ _,?_,hn⟩
  unfold memB
  rw [hn,decide_eq_true hlt,e,dgs_length,decide_eq_true rfl]
  rfl
end Go.Proofs.Ytonpekldcnankaa.X
end
section
namespace Go.Proofs.Ytonpekldcnankaa.X
open Go.RowKit Go.Proofs.YtonpekldcnankaaW.PrintWords Go.Proofs.YtonpekldcnankaaW.PrintLast Go.Proofs.Ytonpekldcnankaa.Ma
set_option linter.unusedVariables false
set_option linter.unusedSimpArgs false
theorem sp_ref6_Member {m rr r:List Int} {K:Int} (hm:Wd m) (lm:m.length≤1000) (hr:Wd r):Ev (fun k => sconceref06_Member.f k m K rr r) (memB m r):=by
  unfold sconceref06_Member.f memB
  by_cases h1:r.length = m.length
  · have b:=blen_nW hr
    rw [decide_eq_true h1,Bool.true_and]
    refine ev_pos (by omega) (ev_bind (sp_OfW hr (by omega)) (ev_bind (sp_OfW hm (by omega)) (ev_bind (sp_Cmp (by omega)) (ev_const ?_))))
    congr 1
    unfold cmpI
    by_cases h2:nW r < nW m
    · rw [if_pos h2,decide_eq_true h2]
      rfl
    · rw [if_neg h2,decide_eq_false h2]
      split <;> rfl
  · rw [decide_eq_false h1,Bool.false_and]
    exact ev_neg (by omega) (ev_const rfl)
theorem isMod_of_chk {m rr:List Int} {K:Int} {R:List Int × Int × List Int × Int} (h:SetR (nW m) R) (hc:chkB R m K rr = true):IsMod m K rr:=by
  unfold chkB at hc
  by_cases e1:R.2.2.2 = 0
  · rw [if_pos e1] at hc
    by_cases e2:R.1 = m
    · rw [if_pos e2] at hc
      by_cases e3:R.2.1 = K
      · rw [if_pos e3] at hc
        have e4:=of_decide_eq_true hc
        have:=(IsMod.of h e1).1
        rw [e2,e3,e4] at this
        exact this
      · rw [if_neg e3] at hc
        exact absurd hc (by decide)
    · rw [if_neg e2] at hc
      exact absurd hc (by decide)
  · rw [if_neg e1] at hc
    exact absurd hc (by decide)
end Go.Proofs.Ytonpekldcnankaa.X
end
section
namespace Go.Proofs.Ytonpekldcnankaa.X
open Go.RowKit Go.Proofs.YtonpekldcnankaaW.PrintWords Go.Proofs.YtonpekldcnankaaW.PrintMore Go.Proofs.YtonpekldcnankaaW.PrintLast Go.Proofs.Ytonpekldcnankaa.Ma
set_option linter.unusedVariables false
set_option linter.unusedSimpArgs false
theorem ref7_loop {m rr:List Int} {K:Int} (hm:Wd m) (lm:m.length≤1000) (ls:List (List Int)) (hls:∀ r ∈ ls,Wd r) (hn:ls.length≤1000000):∀ (d i:Nat),i + d = ls.length →
    Ev (fun k => sconceref07_Members.l0 k ls (ls.length:Int) (i:Int) m K rr) ((ls.drop i).all (memB m)):=by
  intro d
  induction d with
  | zero =>
    intro i hi
    refine Ev.step (fun k => sconceref07_Members.l0.eq_2 ..) (ev_neg (by omega) (ev_const ?_))
    rw [List.drop_eq_nil_of_le (by omega)]
    rfl
  | succ d ih =>
    intro i hi
    have hil:i < ls.length:=by omega
    have e:rd_L2 ls (i:Int) = ls[i]:=by rw [rdLI,List.getD_eq_getElem?_getD,List.getElem?_eq_getElem hil,Option.getD_some]
    have e2:wrap64 ((i:Int) + 1) = ((i + 1:Nat):Int):=by rw [w64 (by omega) (by omega)];omega
    refine Ev.step (fun k => sconceref07_Members.l0.eq_2 ..) (ev_pos (by omega) (ev_pos (by omega) (ev_pos (by omega) ?_)))
    rw [e,e2]
    refine ev_bind (sp_ref6_Member hm lm (hls _ (List.getElem_mem hil))) ?_
    rw [List.drop_eq_getElem_cons hil,List.all_cons]
    by_cases h:memB m ls[i] = true
    · rw [h,Bool.true_and]
      exact ev_pos rfl (ih (i + 1) (by omega))
    · rw [Bool.not_eq_true] at h
      rw [h,Bool.false_and]
      exact ev_neg (by decide) (ev_const rfl)
theorem sp_ref7_Members {m rr:List Int} {K:Int} {R:List Int × Int × List Int × Int} (hm:Wd m) (lm:m.length≤1000) (hR:SetR (nW m) R) (ls:List (List Int)) (hls:∀ r ∈ ls,Wd r) (hn:ls.length≤1000000) :
    Ev (fun k => sconceref07_Members.f k m K rr ls) (chkB R m K rr && ls.all (memB m)):=by
  obtain ⟨S,s1,s2⟩:=sp_ref6_Check (rr:=rr) (K:=K) hm lm
  obtain rfl:=hR.uniq s1
  unfold sconceref07_Members.f
  refine ev_bind s2 ?_
  by_cases h:chkB R m K rr = true
  · rw [h,Bool.true_and]
    exact ev_pos rfl (ref7_loop hm lm ls hls hn ls.length 0 (by omega))
  · rw [Bool.not_eq_true] at h
    rw [h,Bool.false_and]
    exact ev_neg (by decide) (ev_const rfl)
section
variable {m rr a b:List Int} {K:Int} {R:List Int × Int × List Int × Int}
end
theorem sp_as (x:List Int) (e:Int) (y:List Int) (f:Int) (hx:x.length≤1000000000):Ev (fun k => sconcelaw07_as.f k x e y f) (decide (e = f) && decide (x = y)):=by
  unfold sconcelaw07_as.f
  by_cases h:e = f
  · rw [decide_eq_true h,Bool.true_and]
    exact ev_pos h (ev_bind (sp_Same (by omega)) (ev_const rfl))
  · rw [decide_eq_false h,Bool.false_and]
    exact ev_neg h (ev_const rfl)
theorem as_same {x:List Int × Int} (hx:x.1.length≤1000000000):Ev (fun k => sconcelaw07_as.f k x.1 x.2 x.1 x.2) true:=by
  have:=sp_as x.1 x.2 x.1 x.2 hx
  simpa using this
theorem awake7:Ev (fun k => sconcelaw07_awake.f k) true:=Ev.of (fun k => sconcelaw07_awake.mono k) (k:=130) (by kernel_rfl)
end Go.Proofs.Ytonpekldcnankaa.X
end
section
namespace Go.Proofs.Ytonpekldcnankaa.Pure
open Go.RowKit Go.Proofs.Ytonpekldcnankaa.X Go.Proofs.YtonpekldcnankaaW.PrintWords Go.Proofs.YtonpekldcnankaaW.PrintLast Go.Proofs.Ytonpekldcnankaa.Ma
set_option linter.unusedVariables false
set_option linter.unusedSimpArgs false
theorem reduce_same {m rr a:List Int} {K:Int} (hm:Wd m) (ha:Wd a) (lm:m.length≤40) (la:a.length≤1000):∃ r:List Int × Int,r.1.length≤1000∧Ev (fun k => ring_Reduce.f k m K rr a) r∧Ev (fun k => sconceref07_Reduce.f k m K rr a) r:=by
  obtain ⟨R,hR,hC⟩:=sp_mont_Check (rr:=rr) (K:=K) hm (by omega)
  have hM:=sp_ref7_Members (K:=K) (rr:=rr) hm (by omega) hR [] (by simp) (by simp)
  rw [List.all_nil,Bool.and_true] at hM
  unfold ring_Reduce.f sconceref07_Reduce.f
  by_cases c:chkB R m K rr = true
  · rw [c] at hC hM
    have h1:=(isMod_of_chk hR c).2.2.1
    by_cases hl:300 < a.length
    · have hd:product_Divide.f a m = some ([],[],2):=by rw [sp_Divide ha hm (by omega) (by omega)];unfold divR;rw [if_pos (.inl hl)]
      exact ⟨([],2),by simp,ev_bind hC (ev_pos rfl (ev_bind0 hd (ev_const rfl))),ev_bind hM (ev_pos rfl (ev_pos (by omega) (ev_const rfl)))⟩
    · have hd:product_Divide.f a m = some (wds a.length (nW a / nW m),wds m.length (nW a % nW m),0):=by rw [sp_Divide ha hm (by omega) (by omega),divR_ok (by omega) (by omega) (by omega)]
      have ba:=blen_nW ha
      have bm:=blen_nW hm
      refine ⟨(wds m.length (nW a % nW m),0),by simp only [dgs_length];omega,ev_bind hC (ev_pos rfl (ev_bind0 hd (ev_const rfl))),ev_bind hM (ev_pos rfl (ev_neg (by omega) (ev_bind (sp_OfW ha (by omega)) (ev_bind (sp_OfW hm (by omega)) (ev_bind0 (a:=big (nW a % nW m)) ?_ (ev_bind (sp_Nat (by omega)) (ev_const rfl)))))))⟩
      unfold sconceref03_Mod.f
      rw [sp_ref_DivMod (by omega) (by omega) (by omega)]
      rfl
  · rw [Bool.not_eq_true] at c
    rw [c] at hC hM
    exact ⟨([],1),by simp,ev_bind hC (ev_neg (by decide) (ev_const rfl)),ev_bind hM (ev_neg (by decide) (ev_const rfl))⟩
theorem RingReduces:sconcelaw07_RingReduces.PureS:=by
  intro m K rr a _ hm _ _ _ _ ha
  rw [wf_Wd] at hm ha
  refine Ev.rounds ?_
  unfold sconcelaw07_RingReduces.f
  have hj:m.length≤40→a.length≤1000→Ev (fun k => sconcelaw07_RingReduces.j0 k a false m K rr) true:=by
    intro lm la
    obtain ⟨r,r1,r2,r3⟩:=reduce_same (rr:=rr) (K:=K) hm ha lm la
    exact Ev.step (fun k => sconcelaw07_RingReduces.j0.eq_2 ..) (ev_neg (by decide) (ev_bind r2 (ev_bind r3 (ev_bind (as_same (by omega)) (ev_const rfl)))))
  have hy:Ev (fun k => sconcelaw07_RingReduces.j0 k a true m K rr) true:=Ev.step (fun k => sconcelaw07_RingReduces.j0.eq_2 ..) (ev_pos rfl (ev_const rfl))
  refine ev_bind awake7 (ev_pos rfl (ev_bind (sp_Few5 _ (by simp)) ?_))
  by_cases h:fewB 40 [m,rr] = true
  · have h':m.length≤40∧rr.length≤40:=by simpa [fewB] using h
    refine ev_pos h (ev_bind (sp_Few5 _ (by simp)) ?_)
    by_cases h2:fewB 40 [a] = true
    · exact ev_pos h2 (hj h'.1 (by have:a.length≤40:=(by simpa [fewB] using h2);omega))
    · refine ev_neg h2 ?_
      by_cases h3:a.length = 301
      · rw [show ((a.length:Int) != 301) = false from bne_eq_false_iff_eq.2 (by omega)]
        exact hj h'.1 (by omega)
      · rw [show ((a.length:Int) != 301) = true from bne_iff_ne.2 (by omega)]
        exact hy
  · exact ev_neg h hy
end Go.Proofs.Ytonpekldcnankaa.Pure
end
