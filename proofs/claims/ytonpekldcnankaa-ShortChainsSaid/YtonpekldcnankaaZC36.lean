/- Texts of the walk and of the plain laws, laid together by a program: Sp6a, Sp6b, Sp6r, Dn, Sp7, Sp6j, Sp7b. -/
import Derived.LoopIn
import Derived.LoopNIn
import Derived.OwnWalkIn
import Derived.TacticsInMore
import Derived.Test.YtonpekldcnankaaZC21
import Derived.Test.YtonpekldcnankaaZC31
import Derived.Test.YtonpekldcnankaaZC33
import Derived.Test.YtonpekldcnankaaZC34
section
namespace Go.Proofs.Ytonpekldcnankaa.X
open Go.RowKit Go.Proofs.YtonpekldcnankaaW.PrintWords Go.Proofs.YtonpekldcnankaaW.PrintLast Go.Proofs.Ytonpekldcnankaa.Ma
set_option linter.unusedVariables false
set_option linter.unusedSimpArgs false
def IsK (M:Nat) (K:Int):Prop:=∃ x:Int,Inv64 ((M % 18446744073709551616:Nat):Int) x∧K = IntKind.u64.wrap (-x)
theorem IsK.uniq {M:Nat} {K L:Int} (h:IsK M K) (g:IsK M L):K = L:=by
  obtain ⟨x,hx,rfl⟩:=h
  obtain ⟨y,hy,rfl⟩:=g
  rw [hx.uniq hy]
def SetR (M:Nat) (R:List Int × Int × List Int × Int):Prop :=
  (130 < wlen M∧R = ([],0,[],2))∨(wlen M≤130∧M≤1∧R = ([],0,[],1))∨(wlen M≤130∧1 < M∧M % 2 = 0∧R = ([],0,[],60)) ∨
  (wlen M≤130∧1 < M∧M % 2 = 1∧∃ K,IsK M K∧R = (wds (wlen M) M,K,wds (wlen M) (18446744073709551616 ^ (2 * wlen M) % M),0))
theorem SetR.uniq {M:Nat} {R S:List Int × Int × List Int × Int} (h:SetR M R) (g:SetR M S):R = S:=by
  rcases h with ⟨h1,rfl⟩ | ⟨h1,h2,rfl⟩ | ⟨h1,h2,h3,rfl⟩ | ⟨h1,h2,h3,K,hK,rfl⟩ <;> rcases g with ⟨g1,rfl⟩ | ⟨g1,g2,rfl⟩ | ⟨g1,g2,g3,rfl⟩ | ⟨g1,g2,g3,L,hL,rfl⟩ <;> first | rfl | (exfalso;omega) | (rw [hK.uniq hL])
theorem at0_first {l:List Int} (h:Wd l):at0 l 0 = ((nW l % 18446744073709551616:Nat):Int):=by
  have:=at0_num (B:=18446744073709551616) (by decide) h 0
  rw [Nat.pow_zero,Nat.div_one] at this
  exact this
theorem wd_mod (M:Nat):wd ((M % 18446744073709551616:Nat):Int) = true:=wd_iff.2 ⟨by omega,by omega⟩
theorem sp_mont_Setup {l:List Int} (h:Wd l) (hl:l.length≤1000):∃ R,SetR (nW l) R∧Ev (fun k => mont_Setup.f k l) R:=by
  have hc:l.all wd = true∧l.length≤1000:=⟨wd_all.2 h,hl⟩
  unfold mont_Setup.f
  simp only [if_pos hc]
  by_cases h1:130 < wlen (nW l)
  · exact ⟨_,.inl ⟨h1,rfl⟩,ev_pos h1 (ev_const rfl)⟩
  · by_cases h2:nW l≤1
    · exact ⟨_,.inr (.inl ⟨by omega,h2,rfl⟩),ev_neg h1 (ev_pos h2 (ev_const rfl))⟩
    · by_cases h3:nW l % 2 = 0
      · exact ⟨_,.inr (.inr (.inl ⟨by omega,by omega,h3,rfl⟩)),ev_neg h1 (ev_neg h2 (ev_pos h3 (ev_const rfl)))⟩
      · obtain ⟨x,hx,he⟩:=sp_word_Inverse (wd_mod (nW l))
        rw [← at0_first h] at he
        exact ⟨_,.inr (.inr (.inr ⟨by omega,by omega,by omega,_,⟨x,hx,rfl⟩,rfl⟩)),ev_neg h1 (ev_neg h2 (ev_neg h3 (ev_bind he (ev_const rfl))))⟩
theorem rd_big0 {M:Nat}:rd (big M) 0 = ((M % 4294967296:Nat):Int):=by
  have:=rdA (big M) 0
  rw [at0_big,Nat.pow_zero,Nat.div_one] at this
  exact this
theorem blen_wlen (M:Nat):blen M≤2 * wlen M:=blen_le (by rw [← W_pow];exact wlen_lt M)
theorem ref6_j {l:List Int} (h:Wd l) (hl:l.length≤1000):∃ R,SetR (nW l) R∧Ev (fun k => sconceref06_Setup.j1 k l ((wlen (nW l):Nat):Int)) R:=by
  have hwl:=wlen_nW h
  have hb:=blen_wlen (nW l)
  have htk:nW (l.take (wlen (nW l))) = nW l:=by
    show num _ _ = _
    rw [num_take h]
    exact Nat.mod_eq_of_lt (wlen_lt _)
  have htw:Wd (l.take (wlen (nW l))):=fun x hx => h x (List.mem_of_mem_take hx)
  have htl:(l.take (wlen (nW l))).length≤1000:=by rw [List.length_take];omega
  by_cases h1:130 < wlen (nW l)
  · exact ⟨_,.inl ⟨h1,rfl⟩,Ev.step (fun k => sconceref06_Setup.j1.eq_2 ..) (ev_pos (by omega) (ev_const rfl))⟩
  · have hO:=sp_OfW htw (by omega)
    rw [htk] at hO
    have hC:=sp_Cmp (x:=nW l) (y:=2) (by omega)
    have hS:=sp_Small (w:=2) (by decide)
    by_cases h2:nW l≤1
    · refine ⟨_,.inr (.inl ⟨by omega,h2,rfl⟩),Ev.step (fun k => sconceref06_Setup.j1.eq_2 ..) (ev_neg (by omega) (ev_pos (by omega) (ev_pos (by omega) ?_)))⟩
      rw [Int.toNat_natCast]
      refine ev_bind hO (ev_bind hS (ev_bind hC (ev_pos ?_ (ev_const rfl))))
      unfold cmpI
      rw [if_pos (by omega)]
      decide
    · have hcm:¬ (cmpI (nW l) 2 < 0):=by
        unfold cmpI
        rw [if_neg (by omega)]
        split <;> decide
      have hbp:=blen_pos (x:=nW l) (by omega)
      have hmod:Int.tmod (rd (big (nW l)) 0) 2 = ((nW l % 2:Nat):Int):=by
        rw [rd_big0,Int.tmod_eq_emod_of_nonneg (by omega)]
        omega
      by_cases h3:nW l % 2 = 0
      · refine ⟨_,.inr (.inr (.inl ⟨by omega,by omega,h3,rfl⟩)),Ev.step (fun k => sconceref06_Setup.j1.eq_2 ..) (ev_neg (by omega) (ev_pos (by omega) (ev_pos (by omega) ?_)))⟩
        rw [Int.toNat_natCast]
        refine ev_bind hO (ev_bind hS (ev_bind hC (ev_neg hcm (ev_pos (by rw [big_length];omega) (ev_pos (by rw [hmod,h3];rfl) (ev_const rfl))))))
      · obtain ⟨x,hx,he⟩:=sp_ref_Inverse (wd_mod (nW l))
        have hL:=sp_Least (x:=nW l) (by omega)
        have hwp:=wlen_pos (x:=nW l) (by omega)
        rw [show max (wlen (nW l)) 1 = wlen (nW l) by omega] at hL
        have hrd:rd (wds (wlen (nW l)) (nW l)) 0 = ((nW l % 18446744073709551616:Nat):Int):=by
          have:=rdA (wds (wlen (nW l)) (nW l)) 0
          rw [at0_dgs (nW l) hwp,Nat.pow_zero,Nat.div_one] at this
          exact this
        have e1:wrap64 (128 * ((wlen (nW l):Nat):Int)) = ((128 * wlen (nW l):Nat):Int):=by rw [w64 (by omega) (by omega)];omega
        have hSh:=sp_Shl (x:=1) (n:=128 * wlen (nW l)) (by decide) (by omega)
        rw [Nat.one_mul] at hSh
        have hpw:(2:Nat) ^ (128 * wlen (nW l)) = 18446744073709551616 ^ (2 * wlen (nW l)):=by
          rw [show 128 * wlen (nW l) = 64 * (2 * wlen (nW l)) by omega,Nat.pow_mul]
        rw [hpw] at hSh
        have hbw:blen (18446744073709551616 ^ (2 * wlen (nW l)))≤1000:=by have:=blen_Wpow (2 * wlen (nW l));omega
        have hM:sconceref03_Mod.f (big (18446744073709551616 ^ (2 * wlen (nW l)))) (big (nW l)) = some (big (18446744073709551616 ^ (2 * wlen (nW l)) % nW l)):=by
          unfold sconceref03_Mod.f
          rw [sp_ref_DivMod (by omega) (by omega) (by omega)]
          rfl
        have hN:=sp_Nat (x:=18446744073709551616 ^ (2 * wlen (nW l)) % nW l) (n:=((wlen (nW l):Nat):Int)) (by omega)
        rw [Int.toNat_natCast] at hN
        refine ⟨_,.inr (.inr (.inr ⟨by omega,by omega,by omega,_,⟨x,hx,rfl⟩,rfl⟩)),Ev.step (fun k => sconceref06_Setup.j1.eq_2 ..) (ev_neg (by omega) (ev_pos (by omega) (ev_pos (by omega) ?_)))⟩
        rw [Int.toNat_natCast]
        refine ev_bind hO (ev_bind hS (ev_bind hC (ev_neg hcm (ev_pos (by rw [big_length];omega) (ev_neg (by rw [hmod];omega) (ev_bind hL (ev_pos (by rw [dgs_length];omega) ?_)))))))
        rw [hrd,e1]
        exact ev_bind he (ev_bind (sp_Small (w:=1) (by decide)) (ev_bind hSh (ev_bind0 hM (ev_bind hN (ev_const rfl)))))
theorem ref6_loop {l:List Int} (h:Wd l) (hl:l.length≤1000):∀ n:Nat,n≤l.length→nW l < 18446744073709551616 ^ n→∃ R,SetR (nW l) R∧Ev (fun k => sconceref06_Setup.l0 k l (n:Int)) R:=by
  intro n
  induction n with
  | zero =>
    intro _ hM
    obtain ⟨R,h1,h2⟩:=ref6_j h hl
    have hd:=st_done h hM (.inl rfl)
    rw [← hd] at h2
    exact ⟨R,h1,Ev.step (fun k => sconceref06_Setup.l0.eq_2 ..) (ev_neg (by omega) h2)⟩
  | succ n ih =>
    intro hn hM
    have e1:wrap64 (((n + 1:Nat):Int) - 1) = (n:Int):=by rw [w64 (by omega) (by omega)];omega
    by_cases hz:at0 l n = 0
    · obtain ⟨R,h1,h2⟩:=ih (by omega) (by have:=st_less h (n:=n + 1) (by omega) hM (by rw [Nat.add_sub_cancel];exact hz);rw [Nat.add_sub_cancel] at this;exact this)
      refine ⟨R,h1,Ev.step (fun k => sconceref06_Setup.l0.eq_2 ..) (ev_pos (by omega) ?_)⟩
      rw [e1,rdA]
      exact ev_pos (by omega) (ev_pos (by omega) (ev_pos hz h2))
    · obtain ⟨R,h1,h2⟩:=ref6_j h hl
      have hd:=st_done h hM (.inr (by rw [Nat.add_sub_cancel];exact hz))
      rw [← hd] at h2
      refine ⟨R,h1,Ev.step (fun k => sconceref06_Setup.l0.eq_2 ..) (ev_pos (by omega) ?_)⟩
      rw [e1,rdA]
      exact ev_pos (by omega) (ev_pos (by omega) (ev_neg hz h2))
theorem sp_ref6_Setup {l:List Int} (h:Wd l) (hl:l.length≤1000):∃ R,SetR (nW l) R∧Ev (fun k => sconceref06_Setup.f k l) R:=ref6_loop h hl l.length (Nat.le_refl _) (nW_lt h)
theorem SetR.len {M:Nat} {R:List Int × Int × List Int × Int} (h:SetR M R):R.1.length≤130∧R.2.2.1.length≤130:=by
  rcases h with ⟨h1,rfl⟩ | ⟨h1,h2,rfl⟩ | ⟨h1,h2,h3,rfl⟩ | ⟨h1,h2,h3,K,hK,rfl⟩
  · simp
  · simp
  · simp
  · simp only [dgs_length]
    exact ⟨h1,h1⟩
end Go.Proofs.Ytonpekldcnankaa.X
end
section
namespace Go.Proofs.Ytonpekldcnankaa.X
open Go.RowKit Go.Proofs.YtonpekldcnankaaW.PrintWords Go.Proofs.YtonpekldcnankaaW.PrintLast Go.Proofs.Ytonpekldcnankaa.Ma
set_option linter.unusedVariables false
set_option linter.unusedSimpArgs false
theorem slices_Equal_loop (a b:List Int) (hn:a.length≤1000000000000) (hl:a.length = b.length):∀ (d i:Nat),i + d = a.length→(∀ j,j < i→at0 a j = at0 b j) →
    Ev (fun k => api_Nat_uint64_111.l0 k a b (a.length:Int) (i:Int)) (decide (a = b)):=by
  intro d
  induction d with
  | zero =>
    intro i hi h
    refine Ev.step (fun k => by rw [api_Nat_uint64_111.l0]) (ev_neg (by omega) (ev_const ?_))
    have:a = b:=ext_at0 hl (fun j hj => h j (by omega))
    simp [this]
  | succ d ih =>
    intro i hi h
    refine Ev.step (fun k => by rw [api_Nat_uint64_111.l0,w64_succ (by omega),rdA,rdA]) ?_
    refine ev_pos (by omega) (ev_pos (by omega) (ev_pos (by omega) (ev_pos (by omega) ?_)))
    by_cases he:at0 a i = at0 b i
    · exact ev_pos he (ih (i + 1) (by omega) (fun j hj => by
        by_cases e:j = i
        · subst e;exact he
        · exact h j (by omega)))
    · refine ev_neg he (ev_const ?_)
      have:¬ a = b:=fun e => he (by rw [e])
      simp [this]
theorem sp_slices_Equal {a b:List Int} (hn:a.length≤1000000000000):Ev (fun k => api_Nat_uint64_111.f k a b) (decide (a = b)):=by
  unfold api_Nat_uint64_111.f
  by_cases h:a.length = b.length
  · exact ev_pos (by omega) (slices_Equal_loop a b hn h a.length 0 (by omega) (fun j hj => absurd hj (by omega)))
  · refine ev_neg (by omega) (ev_const ?_)
    have:¬ a = b:=fun e => h (by rw [e])
    simp [this]
def chkB (R:List Int × Int × List Int × Int) (m:List Int) (K:Int) (rr:List Int):Bool:=if R.2.2.2 = 0 then (if R.1 = m then (if R.2.1 = K then decide (R.2.2.1 = rr) else false) else false) else false
theorem sp_mont_Check {m rr:List Int} {K:Int} (h:Wd m) (hl:m.length≤1000):∃ R,SetR (nW m) R∧Ev (fun k => mont_Check.f k m K rr) (chkB R m K rr):=by
  obtain ⟨R,h1,h2⟩:=sp_mont_Setup h hl
  have hn:=h1.len
  refine ⟨R,h1,?_⟩
  unfold mont_Check.f chkB
  refine ev_bind h2 ?_
  by_cases e1:R.2.2.2 = 0
  · rw [if_pos e1]
    refine ev_pos e1 (ev_bind (sp_slices_Equal (by omega)) ?_)
    by_cases e2:R.1 = m
    · rw [if_pos e2]
      refine ev_pos (decide_eq_true e2) ?_
      by_cases e3:R.2.1 = K
      · rw [if_pos e3]
        exact ev_pos e3 (ev_bind (sp_slices_Equal (by omega)) (ev_const rfl))
      · rw [if_neg e3]
        exact ev_neg e3 (ev_const rfl)
    · rw [if_neg e2]
      exact ev_neg (by rw [decide_eq_false e2];decide) (ev_const rfl)
  · rw [if_neg e1]
    exact ev_neg e1 (ev_const rfl)
theorem sp_ref6_Check {m rr:List Int} {K:Int} (h:Wd m) (hl:m.length≤1000):∃ R,SetR (nW m) R∧Ev (fun k => sconceref06_Check.f k m K rr) (chkB R m K rr):=by
  obtain ⟨R,h1,h2⟩:=sp_ref6_Setup h hl
  have hn:=h1.len
  refine ⟨R,h1,?_⟩
  unfold sconceref06_Check.f chkB
  refine ev_bind h2 ?_
  by_cases e1:R.2.2.2 = 0
  · rw [if_pos e1]
    refine ev_pos e1 (ev_bind (sp_Same (by omega)) ?_)
    by_cases e2:R.1 = m
    · rw [if_pos e2]
      refine ev_pos (decide_eq_true e2) ?_
      by_cases e3:R.2.1 = K
      · rw [if_pos e3]
        exact ev_pos e3 (ev_bind (sp_Same (by omega)) (ev_const rfl))
      · rw [if_neg e3]
        exact ev_neg e3 (ev_const rfl)
    · rw [if_neg e2]
      exact ev_neg (by rw [decide_eq_false e2];decide) (ev_const rfl)
  · rw [if_neg e1]
    exact ev_neg e1 (ev_const rfl)
end Go.Proofs.Ytonpekldcnankaa.X
end
section
namespace Go.Proofs.Ytonpekldcnankaa.X
open Go.RowKit Go.Proofs.YtonpekldcnankaaW.PrintWords Go.Proofs.YtonpekldcnankaaW.PrintLast Go.Proofs.Ytonpekldcnankaa.Ma
set_option linter.unusedVariables false
set_option linter.unusedSimpArgs false
theorem sp_nat_at (l:List Int) (i:Nat):nat_at.f l (i:Int) = some (at0 l i):=by
  unfold nat_at.f
  rw [if_neg (by omega)]
  by_cases h:l.length≤i
  · rw [if_pos (by omega),at0_ge h]
  · rw [if_neg (by omega),if_pos (by omega),if_pos (by omega),rdA]
def memB (m r:List Int):Bool:=decide (r.length = m.length) && decide (nW r < nW m)
def IsMod (m:List Int) (K:Int) (rr:List Int):Prop:=Wd m∧wlen (nW m)≤130∧1 < nW m∧nW m % 2 = 1∧IsK (nW m) K∧m = wds (wlen (nW m)) (nW m)∧rr = wds (wlen (nW m)) (18446744073709551616 ^ (2 * wlen (nW m)) % nW m)
theorem IsMod.len {m rr:List Int} {K:Int} (h:IsMod m K rr):m.length = wlen (nW m):=by
  have:=h.2.2.2.2.2.1
  conv => lhs;rw [this]
  exact dgs_length _ _ _
theorem IsMod.of {M:Nat} {R:List Int × Int × List Int × Int} (h:SetR M R) (he:R.2.2.2 = 0):IsMod R.1 R.2.1 R.2.2.1∧nW R.1 = M:=by
  rcases h with ⟨_,rfl⟩ | ⟨_,_,rfl⟩ | ⟨_,_,_,rfl⟩ | ⟨h1,h2,h3,K,hK,rfl⟩
  · exact absurd he (by decide)
  · exact absurd he (by decide)
  · exact absurd he (by decide)
  · have e:nW (wds (wlen M) M) = M:=nW_wds (wlen_lt M)
    refine ⟨⟨wds_Wd _ _,?_⟩,e⟩
    simp only [e]
    exact ⟨h1,h2,h3,hK,trivial,trivial⟩
theorem mp_inv {M r y j:Nat} (ho:M % 2 = 1) (h:(r * 2 ^ j) % M = (y * 2 ^ j) % M):r % M = y % M:=by
  have key:∀ x:Nat,(x * 2 ^ j % M * ((M + 1) / 2) ^ j) % M = x % M:=by
    intro x
    rw [Nat.mul_mod,Nat.mod_mod,← Nat.mul_mod,Nat.mul_assoc,← Nat.mul_pow,show 2 * ((M + 1) / 2) = M + 1 by omega,Nat.mul_mod,Nat.pow_mod,Nat.add_mod_left,← Nat.pow_mod,Nat.one_pow,← Nat.mul_mod,Nat.mul_one]
  rw [← key r,← key y,h]
theorem mp_invW {M r y n:Nat} (ho:M % 2 = 1) (h:(r * 18446744073709551616 ^ n) % M = (y * 18446744073709551616 ^ n) % M):r % M = y % M:=by
  have e:18446744073709551616 ^ n = 2 ^ (64 * n):=by rw [Nat.pow_mul]
  rw [e] at h
  exact mp_inv ho h
theorem IsMod.rr {m rr:List Int} {K:Int} (h:IsMod m K rr):Wd rr∧memB m rr = true∧nW rr = 18446744073709551616 ^ (2 * m.length) % nW m:=by
  have hl:=h.len
  have h3:=h.2.2.1
  have e:=h.2.2.2.2.2.2
  rw [← hl] at e
  have hlt:18446744073709551616 ^ (2 * m.length) % nW m < nW m:=Nat.mod_lt _ (by omega)
  have hn:nW rr = 18446744073709551616 ^ (2 * m.length) % nW m:=by
    rw [e]
    exact nW_wds (Nat.lt_trans hlt (nW_lt h.1))
  refine ⟨by rw [e];exact wds_Wd _ _,?_,hn⟩
  unfold memB
  rw [hn,decide_eq_true hlt,e,dgs_length,decide_eq_true rfl]
  rfl
theorem word_first {n:Nat} (hn:0 < n):(List.replicate n (0:Int)).set 0 1 = wds n 1:=by
  have h:=dgs_set (B:=18446744073709551616) 1 hn (1:Int) (by rw [Nat.pow_zero,Nat.div_one];rfl)
  have e:=dgs_append (B:=18446744073709551616) 1 (n - 1) 1
  rw [Nat.pow_one,Nat.div_eq_of_lt (by decide),dgs_zero,show 1 + (n - 1) = n by omega] at e
  show _ = dgs _ _ _
  rw [e]
  exact h
theorem sp_nat_Word1 {n:Nat} (h0:0 < n) (h1:n≤300):nat_Word.f 1 (n:Int) = some (wds n 1):=by
  have e:mn (mx (n:Int) 1) 300 = (n:Int):=by unfold mn mx;omega
  unfold nat_Word.f
  rw [e,if_pos (by omega),Int.toNat_natCast,if_pos (by omega),Option.bind_some,List.length_replicate,if_pos (by omega)]
  congr 1
  exact word_first h0
end Go.Proofs.Ytonpekldcnankaa.X
end
section
namespace Go.Proofs.Ytonpekldcnankaa.X
open Go Go.RowKit Go.Proofs.YtonpekldcnankaaW.PrintWords Go.Proofs.YtonpekldcnankaaW.PrintLast Go.Proofs.YtonpekldcnankaaW.PrintMore Go.Proofs.Ytonpekldcnankaa.Ma
set_option linter.unusedVariables false
set_option linter.unusedSimpArgs false
attribute [local go_sem] Oper.semAt_some
theorem sp_nat_Bit {l:List Int} (hl:Wd l) {i:Nat} (hi:i≤1000000000):nat_Bit.f l (i:Int) = some ((nW l / 2 ^ i % 2:Nat):Int):=by
  have e1:Int.tdiv (i:Int) 64 = ((i / 64:Nat):Int):=by rw [Int.tdiv_eq_ediv_of_nonneg (by omega)];omega
  have e2:Int.tmod (i:Int) 64 = ((i % 64:Nat):Int):=by rw [Int.tmod_eq_emod_of_nonneg (by omega)];omega
  have e3:wrap64 ((i / 64:Nat):Int) = ((i / 64:Nat):Int):=w64 (by omega) (by omega)
  unfold nat_Bit.f
  rw [if_neg (by omega),e1,e2,e3,sp_nat_at,Option.bind_some,if_pos (by omega),at0_nW hl]
  congr 1
  unfold shr
  have hs:i % 64 < 64:=Nat.mod_lt _ (by decide)
  rw [show min ((i % 64:Nat):Int).toNat IntKind.u64.bits = i % 64 from by rw [Int.toNat_natCast];exact Nat.min_eq_left (Nat.le_of_lt hs)]
  have hp:2 ^ i = 18446744073709551616 ^ (i / 64) * 2 ^ (i % 64):=by
    rw [show (18446744073709551616:Nat) = 2 ^ 64 from rfl,← Nat.pow_mul,← Nat.pow_add,Nat.div_add_mod]
  obtain ⟨y,hy⟩:∃ y,y = nW l / 18446744073709551616 ^ (i / 64):=⟨_,rfl⟩
  rw [hp,← Nat.div_div_eq_div_mul,← hy]
  obtain ⟨s,hse⟩:∃ s,s = i % 64:=⟨_,rfl⟩
  rw [← hse] at hs ⊢
  have hcast:((y % 18446744073709551616:Nat):Int) / 2 ^ s = ((y % 18446744073709551616 / 2 ^ s:Nat):Int):=by
    rw [show (2:Int) ^ s = ((2 ^ s:Nat):Int) by simp]
    rfl
  have hle:y % 18446744073709551616 / 2 ^ s≤y % 18446744073709551616:=Nat.div_le_self _ _
  have hlt:y % 18446744073709551616 < 18446744073709551616:=Nat.mod_lt _ (by decide)
  obtain ⟨z,hz⟩:∃ z,z = y % 18446744073709551616 / 2 ^ s:=⟨_,rfl⟩
  rw [← hz] at hle
  have h32:(18446744073709551616:Nat) = 2 ^ s * (2 * 2 ^ (63 - s)):=by
    rw [← Nat.pow_succ',← Nat.pow_add,show s + (63 - s).succ = 64 by omega]
  have hm:z % 2 = y / 2 ^ s % 2:=by
    rw [hz,h32,Nat.mod_mul_right_div_self,Nat.mod_mul_right_mod]
  rw [hcast,← hz,b_and1 (by omega) (by omega),← hm]
  omega
def bitsD (E:Nat):List Bool:=(List.range (bl E)).map fun j => decide (E / 2 ^ (bl E - 1 - j) % 2 = 1)
theorem bitsD_length (E:Nat):(bitsD E).length = bl E:=by simp [bitsD]
theorem bitsD_take {E j:Nat} (hj:j < bl E):(bitsD E).take (j + 1) = (bitsD E).take j ++ [decide (E / 2 ^ (bl E - 1 - j) % 2 = 1)]:=by
  rw [List.take_succ_eq_append_getElem (by rw [bitsD_length];exact hj)]
  congr 2
  simp [bitsD]
theorem bitsD_val (E:Nat):∀ j,j≤bl E→valB ((bitsD E).take j) = E / 2 ^ (bl E - j):=by
  intro j
  induction j with
  | zero =>
    intro _
    rw [Nat.sub_zero,Nat.div_eq_of_lt (bl_lt E)]
    rfl
  | succ j ih =>
    intro hj
    rw [bitsD_take (by omega),valB_snoc,ih (by omega)]
    obtain ⟨d,hd⟩:∃ d,d = bl E - 1 - j:=⟨_,rfl⟩
    rw [show bl E - j = d + 1 by omega,show bl E - (j + 1) = d by omega,← hd,Nat.pow_succ,← Nat.div_div_eq_div_mul]
    by_cases c:E / 2 ^ d % 2 = 1
    · rw [decide_eq_true c];simp;omega
    · rw [decide_eq_false c];simp;omega
theorem bitsD_all (E:Nat):valB (bitsD E) = E:=by
  have:=bitsD_val E (bl E) (Nat.le_refl _)
  rwa [List.take_of_length_le (by rw [bitsD_length];exact Nat.le_refl _),Nat.sub_self,Nat.pow_zero,Nat.div_one] at this
set_option maxHeartbeats 4000000 in
set_option maxRecDepth 100000 in
theorem down_seq (e:List Int) (he:Wd e) (hel:e.length≤1000) (Ae:Option Addr) (ce:Nat) (bx n₀ g₀:Nat) (t:TypeId) (w0:World) (hbx:∀ W,KpY n₀ g₀ w0 W→W.heap[bx]? = some (.cells #[.slice Ae e.length ce] t (0,0))) (hC:∀ W,KpY n₀ g₀ w0 W→Kd.C (Kd.int .u64) W Ae e.length e) (hce:e.length≤ce) :
    SeqD Try.prog 160 #[.pointer (some ⟨bx,0,none⟩)] (fun b:Bool => #[.bool b]) n₀ g₀ (bitsD (nW e)) w0:=by
  intro l J W hW hJ hY h0
  obtain ⟨kb,hkb⟩:=sp_nat_Bits he (by omega)
  have hbl:bl (nW e)≤100000:=by
    have h1:bl (nW e)≤64 * e.length:=bl_le (by rw [Nat.pow_mul];exact nW_lt he)
    omega
  have HB:=Aside0.mk (fun (W1:World) (hW1:KpY n₀ g₀ w0 W1) => nat_Bits.calls kb Ae ce e _ W1 (hC _ hW1) hce (hkb kb (Nat.le_refl _)))
  have HT:=Aside0.mk (fun (i:Nat) (hi:i≤1000000000) (W1:World) (hW1:KpY n₀ g₀ w0 W1) => nat_Bit.calls Ae ce e (i:Int) _ W1 (hC _ hW1) hce (sp_nat_Bit he hi))
  have HZ:=Aside0.mk (fun (W1:World) (hW1:KpY n₀ g₀ w0 W1) => cell_of_one (hbx _ hW1))
  have HY:=Aside0.mk hY
  have HJ:=Aside0.mk hJ
  have HW:=Aside0.mk hW
  have H0:=Aside0.mk h0
  clear hbx hC hY hJ hW h0 hkb
  have zb:=HZ.out _ HW.out
  refine callsIn_of_wp Try.func160 rfl trivial ?_ rfl
  simp only [Try.ntmps160,List.size_toArray,List.length_cons,List.length_nil,Nat.reduceAdd,Nat.reduceSub,Array.replicate_succ,Array.replicate_zero,List.push_toArray,List.append_toArray,List.nil_append,List.cons_append]
  obtain ⟨b1,hb1⟩:∃ b1:Int,b1 = (bl (nW e):Int) - 1:=⟨_,rfl⟩
  have p1:IntKind.i64.wrap ((bl (nW e):Int) - 1) = b1:=by rw [i64_w,w64 (by omega) (by omega),hb1]
  have HB1:=Aside0.mk hb1
  clear hb1
  gi_wp2_with (refine ⟨trivial,?_⟩;gi_at_call 94;refine (callsIn_wide.2 (HB.out _ HW.out)).mono ?_;rintro e' w' ⟨rfl,n1,rfl⟩)
  gi_loopw [3] (fun i wr => ∃ j:Nat,j≤bl (nW e)∧i = .int .i64 ((bl (nW e):Int) - 1 - j)∧Aside0 (J ((bitsD (nW e)).take j) wr)∧Aside0 (KpY n₀ g₀ w0 wr)) (fun i _ => (intOf i + 1).toNat)
  case atStart => exact ⟨0,Nat.zero_le _,by rw [HB1.out];simp,⟨HJ.out _ _ _ H0.out⟩,⟨HW.out.drewN _⟩⟩
  case round =>
    clear zb p1
    obtain ⟨j,hj,rfl,hJs,hBr⟩:=hrel
    have zb:=HZ.out _ hBr.out
    by_cases hlt:j < bl (nW e)
    · obtain ⟨i,hi⟩:∃ i:Nat,i = bl (nW e) - 1 - j:=⟨_,rfl⟩
      have ei:(bl (nW e):Int) - 1 - j = (i:Int):=by omega
      rw [ei]
      have hi9:i≤1000000000:=by omega
      have hpre:((bitsD (nW e)).take j ++ [decide (nW e / 2 ^ i % 2 = 1)]) <+: bitsD (nW e):=by
        rw [hi,← bitsD_take hlt]
        exact List.take_prefix _ _
      have d1:decide ((i:Int) ≥ 0) = true:=decide_eq_true (by omega)
      have d1b:decide ((0:Int)≤(i:Int)) = true:=decide_eq_true (by omega)
      obtain ⟨i1,hi1⟩:∃ i1:Int,i1 = (i:Int) - 1:=⟨_,rfl⟩
      have p2:IntKind.i64.wrap ((i:Int) - 1) = i1:=by rw [i64_w,w64 (by omega) (by omega),hi1]
      have HI:=Aside0.mk (And.intro hi hi1)
      have HPRE:=Aside0.mk hpre
      clear hi hi1 hpre ei
      obtain ⟨q,hq⟩:∃ q:Nat,q = nW e / 2 ^ i % 2:=⟨_,rfl⟩
      have hq2:q = 0∨q = 1:=by omega
      have HQ:=Aside0.mk hq
      have hq':=hq
      clear hq
      rcases hq2 with rfl | rfl
      · have hb0:decide (nW e / 2 ^ i % 2 = 1) = false:=decide_eq_false (by have:=HQ.out;omega)
        rw [hb0] at HPRE
        have HTK:=Aside0.mk (show (bitsD (nW e)).take j ++ [false] = (bitsD (nW e)).take (j + 1) from by rw [bitsD_take hlt,← HI.out.1,hb0])
        have HT':=Aside0.mk (fun (W1:World) (hW1:KpY n₀ g₀ w0 W1) => by have:=HT.out i hi9 W1 hW1;rw [← HQ.out] at this;exact this)
        clear hb0 hq' HQ
        gi_wp2_with (refine ⟨trivial,?_⟩;gi_at_call 161;refine (callsIn_wide.2 (HT'.out _ hBr.out)).mono ?_;rintro e' w' ⟨rfl,n2,rfl⟩;have hJ2:=HJ.out _ _ n2 hJs.out;obtain ⟨fn,tmps,assign,body,hy,hR⟩:=HY.out _ _ _ hJ2 HPRE.out;have HR:=Aside0.mk hR;clear hJ2 hR)
        refine HR.out.mono ?_
        rintro e' W3 ⟨rfl,hJ3,hk3⟩
        have HJ3:=Aside0.mk (show J ((bitsD (nW e)).take (j + 1)) W3 from by rw [← HTK.out];exact hJ3)
        have HB3:=Aside0.mk ((hBr.out.drewN n2).trans hk3)
        clear hJ3 hk3
        gi_wp2
        go_roundw
        case rel => exact ⟨j + 1,by omega,by rw [HI.out.2];have:=HI.out.1;congr 1;omega,HJ3,HB3⟩
        case measure => simp [intOf];have:=HI.out;omega
      · have hb0:decide (nW e / 2 ^ i % 2 = 1) = true:=decide_eq_true (by have:=HQ.out;omega)
        rw [hb0] at HPRE
        have HTK:=Aside0.mk (show (bitsD (nW e)).take j ++ [true] = (bitsD (nW e)).take (j + 1) from by rw [bitsD_take hlt,← HI.out.1,hb0])
        have HT':=Aside0.mk (fun (W1:World) (hW1:KpY n₀ g₀ w0 W1) => by have:=HT.out i hi9 W1 hW1;rw [← HQ.out] at this;exact this)
        clear hb0 hq' HQ
        gi_wp2_with (refine ⟨trivial,?_⟩;gi_at_call 161;refine (callsIn_wide.2 (HT'.out _ hBr.out)).mono ?_;rintro e' w' ⟨rfl,n2,rfl⟩;have hJ2:=HJ.out _ _ n2 hJs.out;obtain ⟨fn,tmps,assign,body,hy,hR⟩:=HY.out _ _ _ hJ2 HPRE.out;have HR:=Aside0.mk hR;clear hJ2 hR)
        refine HR.out.mono ?_
        rintro e' W3 ⟨rfl,hJ3,hk3⟩
        have HJ3:=Aside0.mk (show J ((bitsD (nW e)).take (j + 1)) W3 from by rw [← HTK.out];exact hJ3)
        have HB3:=Aside0.mk ((hBr.out.drewN n2).trans hk3)
        clear hJ3 hk3
        gi_wp2
        go_roundw
        case rel => exact ⟨j + 1,by omega,by rw [HI.out.2];have:=HI.out.1;congr 1;omega,HJ3,HB3⟩
        case measure => simp [intOf];have:=HI.out;omega
    · have hje:j = bl (nW e):=by omega
      have d1:decide ((bl (nW e):Int) - 1 - j ≥ 0) = false:=decide_eq_false (by omega)
      have ei:(bl (nW e):Int) - 1 - j = -1:=by omega
      rw [ei]
      have HJ3:=Aside0.mk (show J (bitsD (nW e)) wr from by have:=hJs.out;rw [hje,List.take_of_length_le (by rw [bitsD_length];exact Nat.le_refl _)] at this;exact this)
      clear hJs d1
      gi_wp2
      go_end0
      exact ⟨⟨_,rfl⟩,HJ3.out⟩
end Go.Proofs.Ytonpekldcnankaa.X
end
section
namespace Go.Proofs.Ytonpekldcnankaa.X
open Go.RowKit Go.Proofs.YtonpekldcnankaaW.PrintWords Go.Proofs.YtonpekldcnankaaW.PrintLast Go.Proofs.Ytonpekldcnankaa.Ma
set_option linter.unusedVariables false
set_option linter.unusedSimpArgs false
theorem isMod_of_chk7 {m rr:List Int} {K:Int} {R:List Int × Int × List Int × Int} (h:SetR (nW m) R) (hc:chkB R m K rr = true):IsMod m K rr:=by
  unfold chkB at hc
  split at hc
  · rename_i h0
    split at hc
    · rename_i h1
      split at hc
      · rename_i h2
        obtain ⟨h3,h4⟩:=IsMod.of h h0
        have h5:=of_decide_eq_true hc
        rw [h1,h2,h5] at h3
        exact h3
      · exact absurd hc (by simp)
    · exact absurd hc (by simp)
  · exact absurd hc (by simp)
theorem isMod_of_f {m rr:List Int} {K:Int} {k:Nat} (hm:Wd m) (hl:m.length≤1000) (h:mont_Check.f k m K rr = some true):IsMod m K rr:=by
  obtain ⟨R,hR,k0,hk⟩:=sp_mont_Check (K:=K) (rr:=rr) hm hl
  refine isMod_of_chk7 hR ?_
  obtain ⟨k1,hk1⟩:=Ev.of (fun k => mont_Check.mono m K rr k) h
  exact Option.some.inj ((hk (max k0 k1) (Nat.le_max_left _ _)).symm.trans (hk1 (max k0 k1) (Nat.le_max_right _ _)))
end Go.Proofs.Ytonpekldcnankaa.X
end
section
namespace Go.Proofs.Ytonpekldcnankaa.X
open Go.RowKit Go.Proofs.YtonpekldcnankaaW.PrintWords Go.Proofs.YtonpekldcnankaaW.PrintLast Go.Proofs.Ytonpekldcnankaa.Ma
set_option linter.unusedVariables false
set_option linter.unusedSimpArgs false
theorem sp_ref6_Member {m rr r:List Int} {K:Int} (hm:Wd m) (lm:m.length≤1000) (hr:Wd r):Ev (fun k => sconceref06_Member.f k m K rr r) (memB m r):=by
  unfold sconceref06_Member.f memB
  by_cases h1:r.length = m.length
  · have b:=blen_nW hr
    rw [decide_eq_true h1,Bool.true_and]
    refine ev_pos (by omega) (ev_bind (sp_OfW hr (by omega)) (ev_bind (sp_OfW hm (by omega)) (ev_bind (sp_Cmp (by omega)) (ev_const ?_))))
    congr 1
    unfold cmpI
    by_cases h2:nW r < nW m
    · rw [if_pos h2,decide_eq_true h2]
      rfl
    · rw [if_neg h2,decide_eq_false h2]
      split <;> rfl
  · rw [decide_eq_false h1,Bool.false_and]
    exact ev_neg (by omega) (ev_const rfl)
theorem isMod_of_chk {m rr:List Int} {K:Int} {R:List Int × Int × List Int × Int} (h:SetR (nW m) R) (hc:chkB R m K rr = true):IsMod m K rr:=by
  unfold chkB at hc
  by_cases e1:R.2.2.2 = 0
  · rw [if_pos e1] at hc
    by_cases e2:R.1 = m
    · rw [if_pos e2] at hc
      by_cases e3:R.2.1 = K
      · rw [if_pos e3] at hc
        have e4:=of_decide_eq_true hc
        have:=(IsMod.of h e1).1
        rw [e2,e3,e4] at this
        exact this
      · rw [if_neg e3] at hc
        exact absurd hc (by decide)
    · rw [if_neg e2] at hc
      exact absurd hc (by decide)
  · rw [if_neg e1] at hc
    exact absurd hc (by decide)
end Go.Proofs.Ytonpekldcnankaa.X
end
section
namespace Go.Proofs.Ytonpekldcnankaa.X
open Go.RowKit Go.Proofs.YtonpekldcnankaaW.PrintWords Go.Proofs.YtonpekldcnankaaW.PrintMore Go.Proofs.YtonpekldcnankaaW.PrintLast Go.Proofs.Ytonpekldcnankaa.Ma
set_option linter.unusedVariables false
set_option linter.unusedSimpArgs false
theorem ref7_loop {m rr:List Int} {K:Int} (hm:Wd m) (lm:m.length≤1000) (ls:List (List Int)) (hls:∀ r ∈ ls,Wd r) (hn:ls.length≤1000000):∀ (d i:Nat),i + d = ls.length →
    Ev (fun k => sconceref07_Members.l0 k ls (ls.length:Int) (i:Int) m K rr) ((ls.drop i).all (memB m)):=by
  intro d
  induction d with
  | zero =>
    intro i hi
    refine Ev.step (fun k => sconceref07_Members.l0.eq_2 ..) (ev_neg (by omega) (ev_const ?_))
    rw [List.drop_eq_nil_of_le (by omega)]
    rfl
  | succ d ih =>
    intro i hi
    have hil:i < ls.length:=by omega
    have e:rd_L2 ls (i:Int) = ls[i]:=by rw [rdLI,List.getD_eq_getElem?_getD,List.getElem?_eq_getElem hil,Option.getD_some]
    have e2:wrap64 ((i:Int) + 1) = ((i + 1:Nat):Int):=by rw [w64 (by omega) (by omega)];omega
    refine Ev.step (fun k => sconceref07_Members.l0.eq_2 ..) (ev_pos (by omega) (ev_pos (by omega) (ev_pos (by omega) ?_)))
    rw [e,e2]
    refine ev_bind (sp_ref6_Member hm lm (hls _ (List.getElem_mem hil))) ?_
    rw [List.drop_eq_getElem_cons hil,List.all_cons]
    by_cases h:memB m ls[i] = true
    · rw [h,Bool.true_and]
      exact ev_pos rfl (ih (i + 1) (by omega))
    · rw [Bool.not_eq_true] at h
      rw [h,Bool.false_and]
      exact ev_neg (by decide) (ev_const rfl)
theorem sp_ref7_Members {m rr:List Int} {K:Int} {R:List Int × Int × List Int × Int} (hm:Wd m) (lm:m.length≤1000) (hR:SetR (nW m) R) (ls:List (List Int)) (hls:∀ r ∈ ls,Wd r) (hn:ls.length≤1000000) :
    Ev (fun k => sconceref07_Members.f k m K rr ls) (chkB R m K rr && ls.all (memB m)):=by
  obtain ⟨S,s1,s2⟩:=sp_ref6_Check (rr:=rr) (K:=K) hm lm
  obtain rfl:=hR.uniq s1
  unfold sconceref07_Members.f
  refine ev_bind s2 ?_
  by_cases h:chkB R m K rr = true
  · rw [h,Bool.true_and]
    exact ev_pos rfl (ref7_loop hm lm ls hls hn ls.length 0 (by omega))
  · rw [Bool.not_eq_true] at h
    rw [h,Bool.false_and]
    exact ev_neg (by decide) (ev_const rfl)
theorem sp_out {m rr:List Int} {K:Int} {R:List Int × Int × List Int × Int} (hm:Wd m) (lm:m.length≤300) (hR:SetR (nW m) R) {ls:List (List Int)} (hls:∀ r ∈ ls,Wd r) (v:List Int) :
    Ev (fun k => Rg.out (mont_Check.f k m K rr) m ls v) (if (chkB R m K rr && ls.all (memB m)) = true then (v,0) else ([],1)):=by
  obtain ⟨S,s1,s2⟩:=sp_mont_Check (rr:=rr) (K:=K) hm (by omega)
  obtain rfl:=hR.uniq s1
  unfold Rg.out
  refine ev_pos (Rg.ok_iff.2 ⟨⟨hm,hls⟩,lm⟩) (ev_bind s2 ?_)
  have e:Rg.mem m ls = ls.all (memB m):=rfl
  rw [e]
  by_cases h:chkB R m K rr = true
  · by_cases h2:ls.all (memB m) = true
    · have hr:(if (chkB R m K rr && ls.all (memB m)) = true then (v,(0:Int)) else ([],1)) = (v,0):=if_pos (by rw [h,h2];rfl)
      rw [hr]
      exact ev_pos ⟨h,h2⟩ (ev_const rfl)
    · have hr:(if (chkB R m K rr && ls.all (memB m)) = true then (v,(0:Int)) else ([],1)) = ([],1):=if_neg (by rw [h,Bool.true_and];exact h2)
      rw [hr]
      exact ev_neg (fun g => h2 g.2) (ev_const rfl)
  · have hr:(if (chkB R m K rr && ls.all (memB m)) = true then (v,(0:Int)) else ([],1)) = ([],1):=if_neg (fun g => h (Bool.and_eq_true_iff.1 g).1)
    rw [hr]
    exact ev_neg (fun g => h g.1) (ev_const rfl)
section
variable {m rr a b:List Int} {K:Int} {R:List Int × Int × List Int × Int}
end
theorem sp_few7 (m:List Int) (K:Int) (rr:List Int) (ls:List (List Int)) (hn:ls.length≤1000000000):Ev (fun k => sconcelaw07_Few.f k m K rr ls) (fewB 40 [m,rr] && fewB 40 ls):=by
  unfold sconcelaw07_Few.f
  refine ev_bind (sp_Few5 _ (by simp)) ?_
  by_cases h:fewB 40 [m,rr] = true
  · rw [h,Bool.true_and]
    exact ev_pos rfl (ev_bind (sp_Few5 _ hn) (ev_const rfl))
  · rw [Bool.not_eq_true] at h
    rw [h,Bool.false_and]
    exact ev_neg (by decide) (ev_const rfl)
end Go.Proofs.Ytonpekldcnankaa.X
end
