/- Texts of the walk and of the plain laws, laid together by a program: Sp6a, Sp6b, Sp6m, Sp6r, Sp6j. -/
import Derived.Test.YtonpekldcnankaaZL25
import Derived.Test.YtonpekldcnankaaZL38
import Derived.Test.YtonpekldcnankaaZL36
import Derived.Test.YtonpekldcnankaaZL37
section
namespace Go.Proofs.Ytonpekldcnankaa.X
open Go.RowKit Go.Proofs.YtonpekldcnankaaW.PrintWords Go.Proofs.YtonpekldcnankaaW.PrintLast Go.Proofs.Ytonpekldcnankaa.Ma
set_option linter.unusedVariables false
set_option linter.unusedSimpArgs false
def IsK (M:Nat) (K:Int):Prop:=∃ x:Int,Inv64 ((M % 18446744073709551616:Nat):Int) x∧K = IntKind.u64.wrap (-x)
theorem IsK.uniq {M:Nat} {K L:Int} (h:IsK M K) (g:IsK M L):K = L:=by
  obtain ⟨x,hx,rfl⟩:=h
  obtain ⟨y,hy,rfl⟩:=g
  rw [hx.uniq hy]
def SetR (M:Nat) (R:List Int × Int × List Int × Int):Prop :=
  (130 < wlen M∧R = ([],0,[],2))∨(wlen M≤130∧M≤1∧R = ([],0,[],1))∨(wlen M≤130∧1 < M∧M % 2 = 0∧R = ([],0,[],60)) ∨
  (wlen M≤130∧1 < M∧M % 2 = 1∧∃ K,IsK M K∧R = (wds (wlen M) M,K,wds (wlen M) (18446744073709551616 ^ (2 * wlen M) % M),0))
theorem SetR.uniq {M:Nat} {R S:List Int × Int × List Int × Int} (h:SetR M R) (g:SetR M S):R = S:=by
  rcases h with ⟨h1,rfl⟩ | ⟨h1,h2,rfl⟩ | ⟨h1,h2,h3,rfl⟩ | ⟨h1,h2,h3,K,hK,rfl⟩ <;> rcases g with ⟨g1,rfl⟩ | ⟨g1,g2,rfl⟩ | ⟨g1,g2,g3,rfl⟩ | ⟨g1,g2,g3,L,hL,rfl⟩ <;> first | rfl | (exfalso;omega) | (rw [hK.uniq hL])
theorem at0_first {l:List Int} (h:Wd l):at0 l 0 = ((nW l % 18446744073709551616:Nat):Int):=by
  have:=at0_num (B:=18446744073709551616) (by decide) h 0
  rw [Nat.pow_zero,Nat.div_one] at this
  exact this
theorem wd_mod (M:Nat):wd ((M % 18446744073709551616:Nat):Int) = true:=wd_iff.2 ⟨by omega,by omega⟩
theorem sp_mont_Setup {l:List Int} (h:Wd l) (hl:l.length≤1000):∃ R,SetR (nW l) R∧Ev (fun k => mont_Setup.f k l) R:=by
  have hc:l.all wd = true∧l.length≤1000:=⟨wd_all.2 h,hl⟩
  unfold mont_Setup.f
  simp only [if_pos hc]
  by_cases h1:130 < wlen (nW l)
  · exact ⟨_,.inl ⟨h1,rfl⟩,ev_pos h1 (ev_const rfl)⟩
  · by_cases h2:nW l≤1
    · exact ⟨_,.inr (.inl ⟨by omega,h2,rfl⟩),ev_neg h1 (ev_pos h2 (ev_const rfl))⟩
    · by_cases h3:nW l % 2 = 0
      · exact ⟨_,.inr (.inr (.inl ⟨by omega,by omega,h3,rfl⟩)),ev_neg h1 (ev_neg h2 (ev_pos h3 (ev_const rfl)))⟩
      · obtain ⟨x,hx,he⟩:=sp_word_Inverse (wd_mod (nW l))
        rw [← at0_first h] at he
        exact ⟨_,.inr (.inr (.inr ⟨by omega,by omega,by omega,_,⟨x,hx,rfl⟩,rfl⟩)),ev_neg h1 (ev_neg h2 (ev_neg h3 (ev_bind he (ev_const rfl))))⟩
theorem rd_big0 {M:Nat}:rd (big M) 0 = ((M % 4294967296:Nat):Int):=by
  have:=rdA (big M) 0
  rw [at0_big,Nat.pow_zero,Nat.div_one] at this
  exact this
theorem blen_wlen (M:Nat):blen M≤2 * wlen M:=blen_le (by rw [← W_pow];exact wlen_lt M)
theorem ref6_j {l:List Int} (h:Wd l) (hl:l.length≤1000):∃ R,SetR (nW l) R∧Ev (fun k => sconceref06_Setup.j1 k l ((wlen (nW l):Nat):Int)) R:=by
  have hwl:=wlen_nW h
  have hb:=blen_wlen (nW l)
  have htk:nW (l.take (wlen (nW l))) = nW l:=by
    show num _ _ = _
    rw [num_take h]
    exact Nat.mod_eq_of_lt (wlen_lt _)
  have htw:Wd (l.take (wlen (nW l))):=fun x hx => h x (List.mem_of_mem_take hx)
  have htl:(l.take (wlen (nW l))).length≤1000:=by rw [List.length_take];omega
  by_cases h1:130 < wlen (nW l)
  · exact ⟨_,.inl ⟨h1,rfl⟩,Ev.step (fun k => sconceref06_Setup.j1.eq_2 ..) (ev_pos (by omega) (ev_const rfl))⟩
  · have hO:=sp_OfW htw (by omega)
    rw [htk] at hO
    have hC:=sp_Cmp (x:=nW l) (y:=2) (by omega)
    have hS:=sp_Small (w:=2) (by decide)
    by_cases h2:nW l≤1
    · refine ⟨_,.inr (.inl ⟨by omega,h2,rfl⟩),Ev.step (fun k => sconceref06_Setup.j1.eq_2 ..) (ev_neg (by omega) (ev_pos (by omega) (ev_pos (by omega) ?_)))⟩
      rw [Int.toNat_natCast]
      refine ev_bind hO (ev_bind hS (ev_bind hC (ev_pos ?_ (ev_const rfl))))
      unfold cmpI
      rw [if_pos (by omega)]
      decide
    · have hcm:¬ (cmpI (nW l) 2 < 0):=by
        unfold cmpI
        rw [if_neg (by omega)]
        split <;> decide
      have hbp:=blen_pos (x:=nW l) (by omega)
      have hmod:Int.tmod (rd (big (nW l)) 0) 2 = ((nW l % 2:Nat):Int):=by
        rw [rd_big0,Int.tmod_eq_emod_of_nonneg (by omega)]
        omega
      by_cases h3:nW l % 2 = 0
      · refine ⟨_,.inr (.inr (.inl ⟨by omega,by omega,h3,rfl⟩)),Ev.step (fun k => sconceref06_Setup.j1.eq_2 ..) (ev_neg (by omega) (ev_pos (by omega) (ev_pos (by omega) ?_)))⟩
        rw [Int.toNat_natCast]
        refine ev_bind hO (ev_bind hS (ev_bind hC (ev_neg hcm (ev_pos (by rw [big_length];omega) (ev_pos (by rw [hmod,h3];rfl) (ev_const rfl))))))
      · obtain ⟨x,hx,he⟩:=sp_ref_Inverse (wd_mod (nW l))
        have hL:=sp_Least (x:=nW l) (by omega)
        have hwp:=wlen_pos (x:=nW l) (by omega)
        rw [show max (wlen (nW l)) 1 = wlen (nW l) by omega] at hL
        have hrd:rd (wds (wlen (nW l)) (nW l)) 0 = ((nW l % 18446744073709551616:Nat):Int):=by
          have:=rdA (wds (wlen (nW l)) (nW l)) 0
          rw [at0_dgs (nW l) hwp,Nat.pow_zero,Nat.div_one] at this
          exact this
        have e1:wrap64 (128 * ((wlen (nW l):Nat):Int)) = ((128 * wlen (nW l):Nat):Int):=by rw [w64 (by omega) (by omega)];omega
        have hSh:=sp_Shl (x:=1) (n:=128 * wlen (nW l)) (by decide) (by omega)
        rw [Nat.one_mul] at hSh
        have hpw:(2:Nat) ^ (128 * wlen (nW l)) = 18446744073709551616 ^ (2 * wlen (nW l)):=by
          rw [show 128 * wlen (nW l) = 64 * (2 * wlen (nW l)) by omega,Nat.pow_mul]
        rw [hpw] at hSh
        have hbw:blen (18446744073709551616 ^ (2 * wlen (nW l)))≤1000:=by have:=blen_Wpow (2 * wlen (nW l));omega
        have hM:sconceref03_Mod.f (big (18446744073709551616 ^ (2 * wlen (nW l)))) (big (nW l)) = some (big (18446744073709551616 ^ (2 * wlen (nW l)) % nW l)):=by
          unfold sconceref03_Mod.f
          rw [sp_ref_DivMod (by omega) (by omega) (by omega)]
          rfl
        have hN:=sp_Nat (x:=18446744073709551616 ^ (2 * wlen (nW l)) % nW l) (n:=((wlen (nW l):Nat):Int)) (by omega)
        rw [Int.toNat_natCast] at hN
        refine ⟨_,.inr (.inr (.inr ⟨by omega,by omega,by omega,_,⟨x,hx,rfl⟩,rfl⟩)),Ev.step (fun k => sconceref06_Setup.j1.eq_2 ..) (ev_neg (by omega) (ev_pos (by omega) (ev_pos (by omega) ?_)))⟩
        rw [Int.toNat_natCast]
        refine ev_bind hO (ev_bind hS (ev_bind hC (ev_neg hcm (ev_pos (by rw [big_length];omega) (ev_neg (by rw [hmod];omega) (ev_bind hL (ev_pos (by rw [dgs_length];omega) ?_)))))))
        rw [hrd,e1]
        exact ev_bind he (ev_bind (sp_Small (w:=1) (by decide)) (ev_bind hSh (ev_bind0 hM (ev_bind hN (ev_const rfl)))))
theorem ref6_loop {l:List Int} (h:Wd l) (hl:l.length≤1000):∀ n:Nat,n≤l.length→nW l < 18446744073709551616 ^ n→∃ R,SetR (nW l) R∧Ev (fun k => sconceref06_Setup.l0 k l (n:Int)) R:=by
  intro n
  induction n with
  | zero =>
    intro _ hM
    obtain ⟨R,h1,h2⟩:=ref6_j h hl
    have hd:=st_done h hM (.inl rfl)
    rw [← hd] at h2
    exact ⟨R,h1,Ev.step (fun k => sconceref06_Setup.l0.eq_2 ..) (ev_neg (by omega) h2)⟩
  | succ n ih =>
    intro hn hM
    have e1:wrap64 (((n + 1:Nat):Int) - 1) = (n:Int):=by rw [w64 (by omega) (by omega)];omega
    by_cases hz:at0 l n = 0
    · obtain ⟨R,h1,h2⟩:=ih (by omega) (by have:=st_less h (n:=n + 1) (by omega) hM (by rw [Nat.add_sub_cancel];exact hz);rw [Nat.add_sub_cancel] at this;exact this)
      refine ⟨R,h1,Ev.step (fun k => sconceref06_Setup.l0.eq_2 ..) (ev_pos (by omega) ?_)⟩
      rw [e1,rdA]
      exact ev_pos (by omega) (ev_pos (by omega) (ev_pos hz h2))
    · obtain ⟨R,h1,h2⟩:=ref6_j h hl
      have hd:=st_done h hM (.inr (by rw [Nat.add_sub_cancel];exact hz))
      rw [← hd] at h2
      refine ⟨R,h1,Ev.step (fun k => sconceref06_Setup.l0.eq_2 ..) (ev_pos (by omega) ?_)⟩
      rw [e1,rdA]
      exact ev_pos (by omega) (ev_pos (by omega) (ev_neg hz h2))
theorem sp_ref6_Setup {l:List Int} (h:Wd l) (hl:l.length≤1000):∃ R,SetR (nW l) R∧Ev (fun k => sconceref06_Setup.f k l) R:=ref6_loop h hl l.length (Nat.le_refl _) (nW_lt h)
theorem SetR.len {M:Nat} {R:List Int × Int × List Int × Int} (h:SetR M R):R.1.length≤130∧R.2.2.1.length≤130:=by
  rcases h with ⟨h1,rfl⟩ | ⟨h1,h2,rfl⟩ | ⟨h1,h2,h3,rfl⟩ | ⟨h1,h2,h3,K,hK,rfl⟩
  · simp
  · simp
  · simp
  · simp only [dgs_length]
    exact ⟨h1,h1⟩
end Go.Proofs.Ytonpekldcnankaa.X
end
section
namespace Go.Proofs.Ytonpekldcnankaa.X
open Go.RowKit Go.Proofs.YtonpekldcnankaaW.PrintWords Go.Proofs.YtonpekldcnankaaW.PrintLast Go.Proofs.Ytonpekldcnankaa.Ma
set_option linter.unusedVariables false
set_option linter.unusedSimpArgs false
theorem slices_Equal_loop (a b:List Int) (hn:a.length≤1000000000000) (hl:a.length = b.length):∀ (d i:Nat),i + d = a.length→(∀ j,j < i→at0 a j = at0 b j) →
    Ev (fun k => api_Nat_uint64_111.l0 k a b (a.length:Int) (i:Int)) (decide (a = b)):=by
  intro d
  induction d with
  | zero =>
    intro i hi h
    refine Ev.step (fun k => by rw [api_Nat_uint64_111.l0]) (ev_neg (by omega) (ev_const ?_))
    have:a = b:=ext_at0 hl (fun j hj => h j (by omega))
    simp [this]
  | succ d ih =>
    intro i hi h
    refine Ev.step (fun k => by rw [api_Nat_uint64_111.l0,w64_succ (by omega),rdA,rdA]) ?_
    refine ev_pos (by omega) (ev_pos (by omega) (ev_pos (by omega) (ev_pos (by omega) ?_)))
    by_cases he:at0 a i = at0 b i
    · exact ev_pos he (ih (i + 1) (by omega) (fun j hj => by
        by_cases e:j = i
        · subst e;exact he
        · exact h j (by omega)))
    · refine ev_neg he (ev_const ?_)
      have:¬ a = b:=fun e => he (by rw [e])
      simp [this]
theorem sp_slices_Equal {a b:List Int} (hn:a.length≤1000000000000):Ev (fun k => api_Nat_uint64_111.f k a b) (decide (a = b)):=by
  unfold api_Nat_uint64_111.f
  by_cases h:a.length = b.length
  · exact ev_pos (by omega) (slices_Equal_loop a b hn h a.length 0 (by omega) (fun j hj => absurd hj (by omega)))
  · refine ev_neg (by omega) (ev_const ?_)
    have:¬ a = b:=fun e => h (by rw [e])
    simp [this]
def chkB (R:List Int × Int × List Int × Int) (m:List Int) (K:Int) (rr:List Int):Bool:=if R.2.2.2 = 0 then (if R.1 = m then (if R.2.1 = K then decide (R.2.2.1 = rr) else false) else false) else false
theorem sp_mont_Check {m rr:List Int} {K:Int} (h:Wd m) (hl:m.length≤1000):∃ R,SetR (nW m) R∧Ev (fun k => mont_Check.f k m K rr) (chkB R m K rr):=by
  obtain ⟨R,h1,h2⟩:=sp_mont_Setup h hl
  have hn:=h1.len
  refine ⟨R,h1,?_⟩
  unfold mont_Check.f chkB
  refine ev_bind h2 ?_
  by_cases e1:R.2.2.2 = 0
  · rw [if_pos e1]
    refine ev_pos e1 (ev_bind (sp_slices_Equal (by omega)) ?_)
    by_cases e2:R.1 = m
    · rw [if_pos e2]
      refine ev_pos (decide_eq_true e2) ?_
      by_cases e3:R.2.1 = K
      · rw [if_pos e3]
        exact ev_pos e3 (ev_bind (sp_slices_Equal (by omega)) (ev_const rfl))
      · rw [if_neg e3]
        exact ev_neg e3 (ev_const rfl)
    · rw [if_neg e2]
      exact ev_neg (by rw [decide_eq_false e2];decide) (ev_const rfl)
  · rw [if_neg e1]
    exact ev_neg e1 (ev_const rfl)
theorem sp_ref6_Check {m rr:List Int} {K:Int} (h:Wd m) (hl:m.length≤1000):∃ R,SetR (nW m) R∧Ev (fun k => sconceref06_Check.f k m K rr) (chkB R m K rr):=by
  obtain ⟨R,h1,h2⟩:=sp_ref6_Setup h hl
  have hn:=h1.len
  refine ⟨R,h1,?_⟩
  unfold sconceref06_Check.f chkB
  refine ev_bind h2 ?_
  by_cases e1:R.2.2.2 = 0
  · rw [if_pos e1]
    refine ev_pos e1 (ev_bind (sp_Same (by omega)) ?_)
    by_cases e2:R.1 = m
    · rw [if_pos e2]
      refine ev_pos (decide_eq_true e2) ?_
      by_cases e3:R.2.1 = K
      · rw [if_pos e3]
        exact ev_pos e3 (ev_bind (sp_Same (by omega)) (ev_const rfl))
      · rw [if_neg e3]
        exact ev_neg e3 (ev_const rfl)
    · rw [if_neg e2]
      exact ev_neg (by rw [decide_eq_false e2];decide) (ev_const rfl)
  · rw [if_neg e1]
    exact ev_neg e1 (ev_const rfl)
end Go.Proofs.Ytonpekldcnankaa.X
end
section
namespace Go.Proofs.Ytonpekldcnankaa.X
open Go.RowKit Go.Proofs.YtonpekldcnankaaW.PrintWords Go.Proofs.YtonpekldcnankaaW.PrintLast Go.Proofs.Ytonpekldcnankaa.Ma
set_option linter.unusedVariables false
set_option linter.unusedSimpArgs false
theorem mp_split (X i:Nat):X = X % 18446744073709551616 ^ i + X / 18446744073709551616 ^ i % 18446744073709551616 * 18446744073709551616 ^ i + X / 18446744073709551616 ^ (i + 1) * 18446744073709551616 ^ (i + 1):=by
  have h1:=Nat.div_add_mod X (18446744073709551616 ^ i)
  have h2:=Nat.div_add_mod (X / 18446744073709551616 ^ i) 18446744073709551616
  rw [Nat.div_div_eq_div_mul,← Nat.pow_succ] at h2
  have e:X / 18446744073709551616 ^ (i + 1) * 18446744073709551616 ^ (i + 1) = 18446744073709551616 ^ i * (18446744073709551616 * (X / 18446744073709551616 ^ (i + 1))):=by rw [Nat.pow_succ];ac_rfl
  rw [e,Nat.mul_comm (X / 18446744073709551616 ^ i % 18446744073709551616),Nat.add_assoc,← Nat.mul_add,Nat.add_comm (X / 18446744073709551616 ^ i % 18446744073709551616),h2]
  omega
theorem mp_set {s:List Int} (h:Wd s) {i:Nat} (hi:i < s.length) (y:Nat):nW (s.set i (y:Int)) = nW s % 18446744073709551616 ^ i + y * 18446744073709551616 ^ i + nW s / 18446744073709551616 ^ (i + 1) * 18446744073709551616 ^ (i + 1):=by
  have h1:=num_set (B:=18446744073709551616) (y:Int) hi
  have h2:=mp_split (nW s) i
  rw [Int.toNat_natCast,at0_nW h,Int.toNat_natCast] at h1
  show num _ _ = _
  change _ = nW s + _ at h1
  generalize num 18446744073709551616 (s.set i (y:Int)) = A at *
  generalize nW s / 18446744073709551616 ^ i % 18446744073709551616 * 18446744073709551616 ^ i = p at *
  omega
theorem mp_set_mod {s:List Int} (h:Wd s) {i:Nat} (hi:i < s.length) {y:Nat} (hy:y < 18446744073709551616):nW (s.set i (y:Int)) % 18446744073709551616 ^ (i + 1) = nW s % 18446744073709551616 ^ i + y * 18446744073709551616 ^ i∧nW (s.set i (y:Int)) / 18446744073709551616 ^ (i + 1) = nW s / 18446744073709551616 ^ (i + 1):=by
  have hB:0 < 18446744073709551616 ^ i:=Nat.pow_pos (by decide)
  have hl:nW s % 18446744073709551616 ^ i + y * 18446744073709551616 ^ i < 18446744073709551616 ^ (i + 1):=by
    have h1:=Nat.mod_lt (nW s) hB
    have h2:(y + 1) * 18446744073709551616 ^ i≤18446744073709551616 * 18446744073709551616 ^ i:=Nat.mul_le_mul_right _ hy
    rw [Nat.add_mul] at h2
    rw [Nat.pow_succ,Nat.mul_comm _ 18446744073709551616]
    omega
  rw [mp_set h hi y,Nat.mul_comm (nW s / _)]
  exact ⟨by rw [Nat.add_mul_mod_self_left,Nat.mod_eq_of_lt hl],by rw [Nat.add_mul_div_left _ _ (Nat.pow_pos (by decide)),Nat.div_eq_of_lt hl,Nat.zero_add]⟩
theorem mp_next (X i:Nat):X % 18446744073709551616 ^ (i + 1) = X % 18446744073709551616 ^ i + X / 18446744073709551616 ^ i % 18446744073709551616 * 18446744073709551616 ^ i:=by
  rw [Nat.pow_succ,Nat.mod_mul,Nat.mul_comm (X / _ % _)]
theorem mp_inner {m a b rr:List Int} {K:Int} (ha:Wd a) (hb:Wd b) (n i:Nat) (hn:m.length = n) (hna:a.length = n) (hnb:b.length = n) (hn3:n≤300) (hi:i < n) (S0 z:Nat) (r:List Int)
    (hK:∀ (s:List Int) (c:Nat),s.length = n + 2→Wd s→c < 18446744073709551616→nW s / 18446744073709551616 ^ (n + 1) = z→nW s + c * 18446744073709551616 ^ n = S0 + (nW a / 18446744073709551616 ^ i % 18446744073709551616) * nW b→Ev (fun k => mont_Product.l1 k a b (n:Int) s (i:Int) (c:Int) (n:Int) (i:Int) (n:Int) (n:Int) m K rr) r) :
    ∀ (d j c:Nat) (s:List Int),j + d = n→s.length = n + 2→Wd s→c < 18446744073709551616→nW s / 18446744073709551616 ^ (n + 1) = z→nW s + c * 18446744073709551616 ^ j = S0 + (nW a / 18446744073709551616 ^ i % 18446744073709551616) * (nW b % 18446744073709551616 ^ j) →
      Ev (fun k => mont_Product.l1 k a b (n:Int) s (i:Int) (c:Int) (n:Int) (i:Int) (n:Int) (j:Int) m K rr) r:=by
  intro d
  induction d with
  | zero =>
    intro j c s hj hl hs hc hz h
    have:j = n:=by omega
    subst this
    refine hK s c hl hs hc hz ?_
    rw [h,← hnb,Nat.mod_eq_of_lt (nW_lt hb)]
  | succ d ih =>
    intro j c s hj hl hs hc hz h
    replace h:=Aside0.mk h
    have hz':=fun y (hy:y < 18446744073709551616) => (mp_set_mod hs (i:=j) (by omega) (y:=y) hy).2
    replace hz':=Aside0.mk hz'
    replace hz:=Aside0.mk hz
    have hlt:j < s.length:=by omega
    refine Ev.step (fun k => mont_Product.l1.eq_2 ..) (ev_pos (by omega) (ev_pos (by omega) (ev_pos (by omega) (ev_pos (by omega) (ev_pos (by omega) (ev_pos (by omega) ?_))))))
    rw [w64_succ (i:=j) (by omega),Int.toNat_natCast,rdA,rdA,rdA,at0_nW ha,at0_nW hb]
    have ho:=at0_dg (by decide) hs j
    have hx:=Nat.mod_lt (nW a / 18446744073709551616 ^ i) (show 0 < 18446744073709551616 by decide)
    have hy:=Nat.mod_lt (nW b / 18446744073709551616 ^ j) (show 0 < 18446744073709551616 by decide)
    have hst:=mul_step (B:=18446744073709551616) (x:=nW a / 18446744073709551616 ^ i % 18446744073709551616) (c:=c) (S:=S0) (i:=0) (j:=j) (out:=s) (b:=b) (by rw [Nat.zero_add,Nat.pow_zero,Nat.mul_one];exact h.out) (by rw [Nat.zero_add];exact hlt)
    clear h
    simp only [Nat.zero_add,Nat.pow_zero,Nat.mul_one] at hst
    replace hst:=Aside0.mk hst
    have eN:num 18446744073709551616 b = nW b:=rfl
    rw [eN] at hst
    generalize hX:nW a / 18446744073709551616 ^ i % 18446744073709551616 = x at *
    generalize hY:nW b / 18446744073709551616 ^ j % 18446744073709551616 = y at *
    obtain ⟨o,hO⟩:∃ o:Nat,at0 s j = (o:Int):=Int.eq_ofNat_of_zero_le ho.1
    rw [hO] at hst ho ⊢
    rw [Int.toNat_natCast] at hst
    rw [sp_word_Mul (wd_iff.2 ⟨by omega,by omega⟩) (wd_iff.2 ⟨by omega,by omega⟩) (wd_iff.2 ⟨by omega,by omega⟩) (wd_iff.2 ⟨by omega,by omega⟩)]
    have hxy:x * y≤18446744073709551615 * 18446744073709551615:=Nat.mul_le_mul (by omega) (by omega)
    have e2:((x:Int) * (y:Int) + (o:Int) + (c:Int)) = ((x * y + o + c:Nat):Int):=by rw [Int.natCast_add,Int.natCast_add,Int.natCast_mul]
    refine ev_bind0 rfl ?_
    simp only [e2]
    generalize hT:x * y + o + c = T at *
    have hTb:T < 18446744073709551616 * 18446744073709551616:=by generalize x * y = p at *;omega
    have e3:(T:Int) % 18446744073709551616 = ((T % 18446744073709551616:Nat):Int):=by omega
    have e4:(T:Int) / 18446744073709551616 = ((T / 18446744073709551616:Nat):Int):=by omega
    rw [e3,e4]
    exact ih (j + 1) (T / 18446744073709551616) (s.set j ((T % 18446744073709551616:Nat):Int)) (by omega) (by rw [List.length_set];exact hl) (dg_set hs ⟨by omega,by omega⟩ _) (by omega) (by
      rw [← hz.out,show n + 1 = (j + 1) + (n - j) by omega,Nat.pow_add,← Nat.div_div_eq_div_mul,← Nat.div_div_eq_div_mul,hz'.out _ (Nat.mod_lt _ (by decide))]) hst.out
theorem mp_second {m a b rr:List Int} {K:Int} (hm:Wd m) (n i:Nat) (hn:m.length = n) (hn1:0 < n) (hn3:n≤300) (T u:Nat) (hu:u < 18446744073709551616) (r:List Int)
    (hK:∀ (s:List Int) (c:Nat),s.length = n + 2→Wd s→c < 18446744073709551616→nW s / 18446744073709551616 ^ n = T / 18446744073709551616 ^ n→18446744073709551616 * (nW s % 18446744073709551616 ^ (n - 1) + c * 18446744073709551616 ^ (n - 1)) = T % 18446744073709551616 ^ n + u * nW m →
      Ev (fun k => mont_Product.l2 k a b (n:Int) s (c:Int) (u:Int) (n:Int) (n:Int) (i:Int) m K rr) r) :
    ∀ (d j c:Nat) (s:List Int),j + 1 + d = n→s.length = n + 2→Wd s→c < 18446744073709551616→nW s / 18446744073709551616 ^ (j + 1) = T / 18446744073709551616 ^ (j + 1)→18446744073709551616 * (nW s % 18446744073709551616 ^ j + c * 18446744073709551616 ^ j) = T % 18446744073709551616 ^ (j + 1) + u * (nW m % 18446744073709551616 ^ (j + 1)) →
      Ev (fun k => mont_Product.l2 k a b (n:Int) s (c:Int) (u:Int) ((j + 1:Nat):Int) (n:Int) (i:Int) m K rr) r:=by
  intro d
  induction d with
  | zero =>
    intro j c s hj hl hs hc h1 h2
    have e:j + 1 = n:=by omega
    rw [e] at h1 h2 ⊢
    refine hK s c hl hs hc h1 ?_
    rw [show n - 1 = j by omega,h2,← hn,Nat.mod_eq_of_lt (nW_lt hm)]
  | succ d ih =>
    intro j c s hj hl hs hc h1 h2
    replace h1:=Aside0.mk h1
    replace h2:=Aside0.mk h2
    have e1:wrap64 (((j + 1:Nat):Int) - 1) = (j:Int):=by rw [w64 (by omega) (by omega)];omega
    refine Ev.step (fun k => mont_Product.l2.eq_2 ..) (ev_pos (by omega) (ev_pos (by omega) (ev_pos (by omega) (ev_pos (by omega) ?_))))
    rw [e1,w64_succ (i:=j + 1) (by omega),Int.toNat_natCast,rdA,rdA,at0_nW hm,at0_nW hs]
    have hy:=Nat.mod_lt (nW m / 18446744073709551616 ^ (j + 1)) (show 0 < 18446744073709551616 by decide)
    have ho:=Nat.mod_lt (nW s / 18446744073709551616 ^ (j + 1)) (show 0 < 18446744073709551616 by decide)
    have hTj:nW s / 18446744073709551616 ^ (j + 1) % 18446744073709551616 = T / 18446744073709551616 ^ (j + 1) % 18446744073709551616:=by rw [h1.out]
    have hTn:=mp_next T (j + 1)
    have hMn:=mp_next (nW m) (j + 1)
    have hdd:nW s / 18446744073709551616 ^ (j + 1 + 1) = T / 18446744073709551616 ^ (j + 1 + 1):=by rw [Nat.pow_succ,← Nat.div_div_eq_div_mul,h1.out,Nat.div_div_eq_div_mul,← Nat.pow_succ]
    have hTn':=Aside0.mk hTn
    have hMn':=Aside0.mk hMn
    have hdd':=Aside0.mk hdd
    clear hTn hMn hdd
    generalize hY:nW m / 18446744073709551616 ^ (j + 1) % 18446744073709551616 = y at *
    generalize hO:nW s / 18446744073709551616 ^ (j + 1) % 18446744073709551616 = o at *
    rw [sp_word_Mul (wd_iff.2 ⟨by omega,by omega⟩) (wd_iff.2 ⟨by omega,by omega⟩) (wd_iff.2 ⟨by omega,by omega⟩) (wd_iff.2 ⟨by omega,by omega⟩)]
    have hxy:u * y≤18446744073709551615 * 18446744073709551615:=Nat.mul_le_mul (by omega) (by omega)
    have e2:((u:Int) * (y:Int) + (o:Int) + (c:Int)) = ((u * y + o + c:Nat):Int):=by rw [Int.natCast_add,Int.natCast_add,Int.natCast_mul]
    refine ev_bind0 rfl (ev_pos (by omega) (ev_pos (by omega) ?_))
    simp only [e2]
    obtain ⟨V,hV⟩:∃ V:Nat,V = u * y + o + c:=⟨_,rfl⟩
    rw [← hV]
    have hVb:V < 18446744073709551616 * 18446744073709551616:=by generalize u * y = p at *;omega
    have e3:(V:Int) % 18446744073709551616 = ((V % 18446744073709551616:Nat):Int):=by omega
    have e4:(V:Int) / 18446744073709551616 = ((V / 18446744073709551616:Nat):Int):=by omega
    rw [e3,e4]
    obtain ⟨g1,g2⟩:=mp_set_mod hs (i:=j) (by omega) (y:=V % 18446744073709551616) (Nat.mod_lt _ (by decide))
    have hV2:=Nat.div_add_mod V 18446744073709551616
    refine ih (j + 1) (V / 18446744073709551616) (s.set j ((V % 18446744073709551616:Nat):Int)) (by omega) (by rw [List.length_set];exact hl) (dg_set hs ⟨by omega,by omega⟩ _) (by omega) ?_ ?_
    · rw [Nat.pow_succ,← Nat.div_div_eq_div_mul,g2,Nat.div_div_eq_div_mul,← Nat.pow_succ]
      exact hdd'.out
    · rw [g1,hTn'.out,hMn'.out,← hTj,Nat.mul_add u]
      have h2':=h2.out
      have eB:18446744073709551616 ^ (j + 1) = 18446744073709551616 * 18446744073709551616 ^ j:=Nat.pow_succ'
      have eV:18446744073709551616 * (V / 18446744073709551616 * 18446744073709551616 ^ (j + 1)) + 18446744073709551616 * (V % 18446744073709551616 * 18446744073709551616 ^ j) = V * 18446744073709551616 ^ (j + 1):=by
        conv => rhs;rw [← hV2]
        rw [eB]
        generalize V / 18446744073709551616 = p
        generalize V % 18446744073709551616 = q
        generalize 18446744073709551616 ^ j = z
        rw [Nat.add_mul]
        congr 1 <;> ac_rfl
      have eS:V * 18446744073709551616 ^ (j + 1) = o * 18446744073709551616 ^ (j + 1) + u * (y * 18446744073709551616 ^ (j + 1)) + 18446744073709551616 * (c * 18446744073709551616 ^ j):=by
        rw [hV,Nat.add_mul,Nat.add_mul,Nat.mul_assoc u,Nat.add_comm (u * _)]
        congr 1
        rw [eB]
        ac_rfl
      rw [Nat.mul_add,Nat.mul_add] at *
      generalize V * 18446744073709551616 ^ (j + 1) = v1 at *
      generalize 18446744073709551616 * (V / 18446744073709551616 * 18446744073709551616 ^ (j + 1)) = v2 at *
      generalize 18446744073709551616 * (V % 18446744073709551616 * 18446744073709551616 ^ j) = v3 at *
      generalize o * 18446744073709551616 ^ (j + 1) = v4 at *
      generalize u * (y * 18446744073709551616 ^ (j + 1)) = v5 at *
      generalize 18446744073709551616 * (c * 18446744073709551616 ^ j) = v6 at *
      generalize 18446744073709551616 * (nW s % 18446744073709551616 ^ j) = v7 at *
      omega
def mpS (A b M Kn:Nat):Nat→Nat
  | 0 => 0
  | i + 1 => (mpS A b M Kn i + (A / 18446744073709551616 ^ i % 18446744073709551616) * b + ((mpS A b M Kn i + (A / 18446744073709551616 ^ i % 18446744073709551616) * b) % 18446744073709551616 * Kn % 18446744073709551616) * M) / 18446744073709551616
theorem mp_exact {X M Kn:Nat} (hK:(M * Kn + 1) % 18446744073709551616 = 0):(X + X % 18446744073709551616 * Kn % 18446744073709551616 * M) % 18446744073709551616 = 0:=by
  have e:(X + X % 18446744073709551616 * Kn % 18446744073709551616 * M) % 18446744073709551616 = (X * (M * Kn + 1)) % 18446744073709551616:=by
    rw [Nat.mul_add,Nat.mul_one,Nat.add_comm (X * (M * Kn)),Nat.add_mod,Nat.mul_mod (X % 18446744073709551616 * Kn % 18446744073709551616),Nat.mod_mod,← Nat.mul_mod,Nat.mul_assoc,Nat.mul_comm Kn M,Nat.mul_mod (X % _),Nat.mod_mod,← Nat.mul_mod,← Nat.add_mod]
  rw [e,Nat.mul_mod,hK,Nat.mul_zero,Nat.zero_mod]
theorem mpS_step {A b M Kn:Nat} (hK:(M * Kn + 1) % 18446744073709551616 = 0) (i:Nat):18446744073709551616 * mpS A b M Kn (i + 1) = mpS A b M Kn i + (A / 18446744073709551616 ^ i % 18446744073709551616) * b + ((mpS A b M Kn i + (A / 18446744073709551616 ^ i % 18446744073709551616) * b) % 18446744073709551616 * Kn % 18446744073709551616) * M :=
  Nat.mul_div_cancel' (Nat.dvd_of_mod_eq_zero (mp_exact hK))
theorem mpS_lt {A b M Kn:Nat} (hK:(M * Kn + 1) % 18446744073709551616 = 0) (hb:b < M) (hM:0 < M):∀ i,mpS A b M Kn i < 2 * M
  | 0 => by show 0 < _;omega
  | i + 1 => by
    have ih:=mpS_lt (A:=A) hK hb hM i
    have h:=mpS_step (A:=A) (b:=b) hK i
    have h1:(A / 18446744073709551616 ^ i % 18446744073709551616) * b≤18446744073709551615 * M:=Nat.mul_le_mul (by have:=Nat.mod_lt (A / 18446744073709551616 ^ i) (show 0 < 18446744073709551616 by decide);omega) (by omega)
    have h2:((mpS A b M Kn i + (A / 18446744073709551616 ^ i % 18446744073709551616) * b) % 18446744073709551616 * Kn % 18446744073709551616) * M≤18446744073709551615 * M:=Nat.mul_le_mul_right _ (by have:=Nat.mod_lt ((mpS A b M Kn i + (A / 18446744073709551616 ^ i % 18446744073709551616) * b) % 18446744073709551616 * Kn) (show 0 < 18446744073709551616 by decide);omega)
    generalize (A / 18446744073709551616 ^ i % 18446744073709551616) * b = p at *
    generalize ((mpS A b M Kn i + p) % 18446744073709551616 * Kn % 18446744073709551616) * M = q at *
    omega
theorem mpS_rel {A b M Kn:Nat} (hK:(M * Kn + 1) % 18446744073709551616 = 0):∀ i,∃ Q,mpS A b M Kn i * 18446744073709551616 ^ i = (A % 18446744073709551616 ^ i) * b + Q * M
  | 0 => ⟨0,by simp [mpS,Nat.mod_one]⟩
  | i + 1 => by
    obtain ⟨Q,ih⟩:=mpS_rel (A:=A) (b:=b) hK i
    have h:=mpS_step (A:=A) (b:=b) hK i
    refine ⟨Q + ((mpS A b M Kn i + (A / 18446744073709551616 ^ i % 18446744073709551616) * b) % 18446744073709551616 * Kn % 18446744073709551616) * 18446744073709551616 ^ i,?_⟩
    rw [Nat.pow_succ',← Nat.mul_assoc,Nat.mul_comm (mpS A b M Kn (i + 1)),h,← Nat.pow_succ',mp_next A i]
    generalize (mpS A b M Kn i + (A / 18446744073709551616 ^ i % 18446744073709551616) * b) % 18446744073709551616 * Kn % 18446744073709551616 = u at *
    rw [Nat.add_mul,Nat.add_mul,ih,Nat.add_mul,Nat.add_mul]
    generalize A / 18446744073709551616 ^ i % 18446744073709551616 = x
    generalize 18446744073709551616 ^ i = z
    have e1:x * b * z = x * z * b:=by ac_rfl
    have e2:u * M * z = u * z * M:=by ac_rfl
    rw [e1,e2]
    omega
theorem isK_nat {M:Nat} {K:Int} (h:IsK M K) (ho:M % 2 = 1):∃ Kn:Nat,K = (Kn:Int)∧Kn < 18446744073709551616∧(M * Kn + 1) % 18446744073709551616 = 0:=by
  obtain ⟨x,⟨hx1,hx2,_⟩,rfl⟩:=h
  obtain ⟨q,hq⟩:=hx2 (by omega)
  have hw:IntKind.u64.wrap (-x) = -x % 18446744073709551616:=wU _
  have hn:0≤-x % 18446744073709551616:=Int.emod_nonneg _ (by decide)
  have hl:-x % 18446744073709551616 < 18446744073709551616:=Int.emod_lt_of_pos _ (by decide)
  obtain ⟨Kn,hKn⟩:=Int.eq_ofNat_of_zero_le hn
  refine ⟨Kn,by rw [hw,hKn],by omega,?_⟩
  have hd:=Int.emod_add_mul_ediv (-x) 18446744073709551616
  rw [hKn] at hd
  have e:((M * Kn + 1:Nat):Int) = 18446744073709551616 * (((M / 18446744073709551616:Nat):Int) * (Kn:Int) - ((M % 18446744073709551616:Nat):Int) * (-x / 18446744073709551616) - q):=by
    have hM:(M:Int) = 18446744073709551616 * ((M / 18446744073709551616:Nat):Int) + ((M % 18446744073709551616:Nat):Int):=by omega
    have hKe:(Kn:Int) = -x - 18446744073709551616 * (-x / 18446744073709551616):=by omega
    rw [Int.natCast_add,Int.natCast_mul,hM,Int.add_mul,Int.mul_sub,Int.mul_sub,Int.mul_assoc]
    have e1:((M % 18446744073709551616:Nat):Int) * (Kn:Int) = -(((M % 18446744073709551616:Nat):Int) * x) - 18446744073709551616 * (((M % 18446744073709551616:Nat):Int) * (-x / 18446744073709551616)):=by
      rw [hKe,Int.mul_sub,Int.mul_neg]
      congr 1
      exact Int.mul_left_comm _ _ _
    rw [e1]
    have:((1:Nat):Int) = 1:=rfl
    omega
  have:((M * Kn + 1:Nat):Int) % 18446744073709551616 = 0:=by rw [e];exact Int.mul_emod_right _ _
  omega
end Go.Proofs.Ytonpekldcnankaa.X
end
section
namespace Go.Proofs.Ytonpekldcnankaa.X
open Go.RowKit Go.Proofs.YtonpekldcnankaaW.PrintWords Go.Proofs.YtonpekldcnankaaW.PrintLast Go.Proofs.Ytonpekldcnankaa.Ma
set_option linter.unusedVariables false
set_option linter.unusedSimpArgs false
def memB (m r:List Int):Bool:=decide (r.length = m.length) && decide (nW r < nW m)
def IsMod (m:List Int) (K:Int) (rr:List Int):Prop:=Wd m∧wlen (nW m)≤130∧1 < nW m∧nW m % 2 = 1∧IsK (nW m) K∧m = wds (wlen (nW m)) (nW m)∧rr = wds (wlen (nW m)) (18446744073709551616 ^ (2 * wlen (nW m)) % nW m)
theorem IsMod.len {m rr:List Int} {K:Int} (h:IsMod m K rr):m.length = wlen (nW m):=by
  have:=h.2.2.2.2.2.1
  conv => lhs;rw [this]
  exact dgs_length _ _ _
theorem IsMod.of {M:Nat} {R:List Int × Int × List Int × Int} (h:SetR M R) (he:R.2.2.2 = 0):IsMod R.1 R.2.1 R.2.2.1∧nW R.1 = M:=by
  rcases h with ⟨_,rfl⟩ | ⟨_,_,rfl⟩ | ⟨_,_,_,rfl⟩ | ⟨h1,h2,h3,K,hK,rfl⟩
  · exact absurd he (by decide)
  · exact absurd he (by decide)
  · exact absurd he (by decide)
  · have e:nW (wds (wlen M) M) = M:=nW_wds (wlen_lt M)
    refine ⟨⟨wds_Wd _ _,?_⟩,e⟩
    simp only [e]
    exact ⟨h1,h2,h3,hK,trivial,trivial⟩
theorem mp_inv {M r y j:Nat} (ho:M % 2 = 1) (h:(r * 2 ^ j) % M = (y * 2 ^ j) % M):r % M = y % M:=by
  have key:∀ x:Nat,(x * 2 ^ j % M * ((M + 1) / 2) ^ j) % M = x % M:=by
    intro x
    rw [Nat.mul_mod,Nat.mod_mod,← Nat.mul_mod,Nat.mul_assoc,← Nat.mul_pow,show 2 * ((M + 1) / 2) = M + 1 by omega,Nat.mul_mod,Nat.pow_mod,Nat.add_mod_left,← Nat.pow_mod,Nat.one_pow,← Nat.mul_mod,Nat.mul_one]
  rw [← key r,← key y,h]
theorem mp_invW {M r y n:Nat} (ho:M % 2 = 1) (h:(r * 18446744073709551616 ^ n) % M = (y * 18446744073709551616 ^ n) % M):r % M = y % M:=by
  have e:18446744073709551616 ^ n = 2 ^ (64 * n):=by rw [Nat.pow_mul]
  rw [e] at h
  exact mp_inv ho h
theorem IsMod.rr {m rr:List Int} {K:Int} (h:IsMod m K rr):Wd rr∧memB m rr = true∧nW rr = 18446744073709551616 ^ (2 * m.length) % nW m:=by
  have hl:=h.len
  have h3:=h.2.2.1
  have e:=h.2.2.2.2.2.2
  rw [← hl] at e
  have hlt:18446744073709551616 ^ (2 * m.length) % nW m < nW m:=Nat.mod_lt _ (by omega)
  have hn:nW rr = 18446744073709551616 ^ (2 * m.length) % nW m:=by
    rw [e]
    exact nW_wds (Nat.lt_trans hlt (nW_lt h.1))
  refine ⟨by rw [e];exact wds_Wd _ _,?_,hn⟩
  unfold memB
  rw [hn,decide_eq_true hlt,e,dgs_length,decide_eq_true rfl]
  rfl
end Go.Proofs.Ytonpekldcnankaa.X
end
section
namespace Go.Proofs.Ytonpekldcnankaa.X
open Go.RowKit Go.Proofs.YtonpekldcnankaaW.PrintWords Go.Proofs.YtonpekldcnankaaW.PrintLast Go.Proofs.Ytonpekldcnankaa.Ma
set_option linter.unusedVariables false
set_option linter.unusedSimpArgs false
theorem sp_ref6_Member {m rr r:List Int} {K:Int} (hm:Wd m) (lm:m.length≤1000) (hr:Wd r):Ev (fun k => sconceref06_Member.f k m K rr r) (memB m r):=by
  unfold sconceref06_Member.f memB
  by_cases h1:r.length = m.length
  · have b:=blen_nW hr
    rw [decide_eq_true h1,Bool.true_and]
    refine ev_pos (by omega) (ev_bind (sp_OfW hr (by omega)) (ev_bind (sp_OfW hm (by omega)) (ev_bind (sp_Cmp (by omega)) (ev_const ?_))))
    congr 1
    unfold cmpI
    by_cases h2:nW r < nW m
    · rw [if_pos h2,decide_eq_true h2]
      rfl
    · rw [if_neg h2,decide_eq_false h2]
      split <;> rfl
  · rw [decide_eq_false h1,Bool.false_and]
    exact ev_neg (by omega) (ev_const rfl)
end Go.Proofs.Ytonpekldcnankaa.X
end
