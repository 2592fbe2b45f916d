/- Texts of the walk and of the plain laws, laid together by a program: Sp6n, Sp7, Rx, X35, X41. -/
import Derived.Test.YtonpekldcnankaaZL26
import Derived.Test.YtonpekldcnankaaZL40
import Derived.Test.YtonpekldcnankaaZL39
set_option maxHeartbeats 8000000
set_option maxRecDepth 100000
section
namespace Go.Proofs.Ytonpekldcnankaa.X
open Go.RowKit Go.Proofs.YtonpekldcnankaaW.PrintWords Go.Proofs.YtonpekldcnankaaW.PrintLast Go.Proofs.Ytonpekldcnankaa.Ma
set_option linter.unusedVariables false
set_option linter.unusedSimpArgs false
theorem rd0 {l:List Int} (h:Wd l):rd l 0 = ((nW l % 18446744073709551616:Nat):Int):=by
  have:=rdA l 0
  rw [at0_first h] at this
  exact this
theorem mp_two {s:List Int} (h:Wd s) {n:Nat} (hl:s.length = n + 2) {v c:Nat} (hv:v < 18446744073709551616) (hc:c < 18446744073709551616):nW ((s.set n (v:Int)).set (n + 1) (c:Int)) = nW s % 18446744073709551616 ^ n + v * 18446744073709551616 ^ n + c * 18446744073709551616 ^ (n + 1):=by
  have h1:Wd (s.set n (v:Int)):=dg_set h ⟨by omega,by omega⟩ _
  have h2:=mp_set h1 (i:=n + 1) (by rw [List.length_set];omega) c
  have h3:=(mp_set_mod h (i:=n) (by omega) hv).1
  have h4:nW (s.set n (v:Int)) / 18446744073709551616 ^ (n + 1 + 1) = 0:=Nat.div_eq_of_lt (by have:=nW_lt h1;rw [List.length_set,hl] at this;exact this)
  rw [h2,h3,h4,Nat.zero_mul,Nat.add_zero]
theorem mp_third {s:List Int} (h:Wd s) {n:Nat} (hn:0 < n) (hl:s.length = n + 2) {v w:Nat} (hv:v < 18446744073709551616) (hw:w < 18446744073709551616) :
    nW ((s.set (n - 1) (v:Int)).set n (w:Int)) = nW s % 18446744073709551616 ^ (n - 1) + v * 18446744073709551616 ^ (n - 1) + w * 18446744073709551616 ^ n + nW s / 18446744073709551616 ^ (n + 1) * 18446744073709551616 ^ (n + 1):=by
  have h1:Wd (s.set (n - 1) (v:Int)):=dg_set h ⟨by omega,by omega⟩ _
  have h2:=mp_set h1 (i:=n) (by rw [List.length_set];omega) w
  obtain ⟨h3,h4⟩:=mp_set_mod h (i:=n - 1) (by omega) hv
  rw [show n - 1 + 1 = n by omega] at h3 h4
  have h5:nW (s.set (n - 1) (v:Int)) / 18446744073709551616 ^ (n + 1) = nW s / 18446744073709551616 ^ (n + 1):=by
    rw [Nat.pow_succ,← Nat.div_div_eq_div_mul,h4,Nat.div_div_eq_div_mul]
  rw [h2,h3,h5]
theorem mp_mid {m a b rr s1:List Int} {Kn:Nat} (hm:Wd m) (n i c1 T u o:Nat) (hn:m.length = n) (hn0:0 < n) (hn3:n≤300) (hKl:Kn < 18446744073709551616) (hl1:s1.length = n + 2) (hs1:Wd s1) (hc1:c1 < 18446744073709551616)
    (ho2:o = nW s1 / 18446744073709551616 ^ n % 18446744073709551616) (hT:nW s1 % 18446744073709551616 ^ n + (o + c1) % 18446744073709551616 * 18446744073709551616 ^ n + (o + c1) / 18446744073709551616 * 18446744073709551616 ^ (n + 1) = T)
    (hu:u = T % 18446744073709551616 * Kn % 18446744073709551616) (hex:(T + u * nW m) % 18446744073709551616 = 0) (r:List Int)
    (hK:∀ (y:List Int) (c:Nat),y.length = n + 2→Wd y→c < 18446744073709551616→nW y = T→18446744073709551616 * c = T % 18446744073709551616 + u * (nW m % 18446744073709551616)→Ev (fun k => mont_Product.l2 k a b (n:Int) y (c:Int) (u:Int) (1:Int) (n:Int) (i:Int) m (Kn:Int) rr) r) :
    Ev (fun k => mont_Product.l1 k a b (n:Int) s1 (i:Int) (c1:Int) (n:Int) (i:Int) (n:Int) (n:Int) m (Kn:Int) rr) r:=by
  have hol:o < 18446744073709551616:=by rw [ho2];exact Nat.mod_lt _ (by decide)
  have hul:u < 18446744073709551616:=by rw [hu];exact Nat.mod_lt _ (by decide)
  have hat:at0 s1 n = (o:Int):=by rw [at0_nW hs1,ho2]
  have hv:(o + c1) % 18446744073709551616 < 18446744073709551616:=Nat.mod_lt _ (by decide)
  have hc2:(o + c1) / 18446744073709551616 < 18446744073709551616:=by clear hT hex hu ho2;omega
  have hTy:=mp_two hs1 hl1 hv hc2
  rw [hT] at hTy
  have e1:wrap64 ((n:Int) + 1) = ((n + 1:Nat):Int):=by rw [w64 (by clear hT hex hu ho2 hTy;omega) (by clear hT hex hu ho2 hTy;omega)];clear hT hex hu ho2 hTy;omega
  have hadd:word_Add.f (o:Int) (c1:Int) 0 = some ((((o + c1) % 18446744073709551616:Nat):Int),(((o + c1) / 18446744073709551616:Nat):Int)):=by
    clear hT hex hu ho2 hTy
    rw [sp_word_Add (wd_iff.2 ⟨by omega,by omega⟩) (wd_iff.2 ⟨by omega,by omega⟩) (wd_iff.2 ⟨by omega,by omega⟩)]
    congr 2 <;> omega
  have hmul:∃ c,c < 18446744073709551616∧18446744073709551616 * c = T % 18446744073709551616 + u * (nW m % 18446744073709551616)∧word_Mul.f (u:Int) ((nW m % 18446744073709551616:Nat):Int) ((T % 18446744073709551616:Nat):Int) 0 = some ((c:Int),0):=by
    have ht0:=Nat.mod_lt T (show 0 < 18446744073709551616 by decide)
    have hm0:=Nat.mod_lt (nW m) (show 0 < 18446744073709551616 by decide)
    have hV0:(T % 18446744073709551616 + u * (nW m % 18446744073709551616)) % 18446744073709551616 = 0:=by
      rw [Nat.add_mod,Nat.mod_mod,Nat.mul_mod,Nat.mod_mod,← Nat.mul_mod,← Nat.add_mod]
      exact hex
    have hp:u * (nW m % 18446744073709551616)≤18446744073709551615 * 18446744073709551615:=Nat.mul_le_mul (by clear hT hex hu ho2 hTy hV0;omega) (by clear hT hex hu ho2 hTy hV0;omega)
    obtain ⟨m0,hm0e⟩:∃ m0,m0 = nW m % 18446744073709551616:=⟨_,rfl⟩
    obtain ⟨t0,ht0e⟩:∃ t0,t0 = T % 18446744073709551616:=⟨_,rfl⟩
    rw [← hm0e,← ht0e] at hV0 ⊢
    rw [← hm0e] at hp hm0
    rw [← ht0e] at ht0
    clear hT hex hu ho2 hTy hm0e ht0e
    rw [sp_word_Mul (wd_iff.2 ⟨by omega,by omega⟩) (wd_iff.2 ⟨by omega,by omega⟩) (wd_iff.2 ⟨by omega,by omega⟩) (wd_iff.2 ⟨by omega,by omega⟩)]
    obtain ⟨p,hpe⟩:∃ p,p = u * m0:=⟨_,rfl⟩
    rw [← hpe] at hV0 hp
    refine ⟨(t0 + p) / 18446744073709551616,by omega,by rw [← hpe];omega,?_⟩
    rw [← Int.natCast_mul,← hpe]
    congr 2 <;> omega
  obtain ⟨c,hcl,hce,hmul⟩:=hmul
  have e4:IntKind.u64.wrap (((T % 18446744073709551616:Nat):Int) * (Kn:Int)) = (u:Int):=by
    rw [wU,← Int.natCast_mul,hu]
    exact (Int.natCast_emod _ _).symm
  have hm0l:(0:Int) < (m.length:Int):=by clear hT hex hu ho2 hTy hce;omega
  have hK2:=fun y h1 h2 h3 => hK y c h1 h2 hcl h3 hce
  have hy:Wd ((s1.set n (((o + c1) % 18446744073709551616:Nat):Int)).set (n + 1) (((o + c1) / 18446744073709551616:Nat):Int)):=dg_set (dg_set hs1 ⟨by clear hT hex hu ho2 hTy hce;omega,by clear hT hex hu ho2 hTy hce;omega⟩ _) ⟨by clear hT hex hu ho2 hTy hce;omega,by clear hT hex hu ho2 hTy hce;omega⟩ _
  have hyl:((s1.set n (((o + c1) % 18446744073709551616:Nat):Int)).set (n + 1) (((o + c1) / 18446744073709551616:Nat):Int)).length = n + 2:=by rw [List.length_set,List.length_set];exact hl1
  have hfin:=hK2 _ hyl hy hTy
  have hr0:=rd0 hy
  rw [hTy] at hr0
  have hrm:=rd0 hm
  clear hT hex hu ho2 hK hK2 hce hTy
  refine Ev.step (fun k => mont_Product.l1.eq_2 ..) (ev_neg (by omega) (ev_pos (by omega) (ev_pos (by omega) ?_)))
  rw [rdA,hat,e1]
  refine ev_bind0 hadd (ev_pos (by omega) (ev_pos (by omega) ?_))
  simp only [Int.toNat_natCast]
  refine ev_bind0 rfl (ev_pos (by omega) (ev_pos hm0l ?_))
  rw [hr0,hrm,e4]
  exact ev_bind0 hmul hfin
theorem mp_last {m a b rr s2:List Int} {K:Int} (n i c2 u t q:Nat) (hn0:0 < n) (hn3:n≤300) (hi:i < n) (hl2:s2.length = n + 2) (hs2:Wd s2) (hc2:c2 < 18446744073709551616)
    (ht:t = nW s2 / 18446744073709551616 ^ n % 18446744073709551616) (hq:q = nW s2 / 18446744073709551616 ^ (n + 1)) (hw:q + (t + c2) / 18446744073709551616 < 2) (r:List Int)
    (hK:∀ s3:List Int,s3.length = n + 2→Wd s3→nW s3 = nW s2 % 18446744073709551616 ^ (n - 1) + (t + c2) % 18446744073709551616 * 18446744073709551616 ^ (n - 1) + (q + (t + c2) / 18446744073709551616) * 18446744073709551616 ^ n + q * 18446744073709551616 ^ (n + 1) →
      Ev (fun k => mont_Product.l0 k a b (n:Int) s3 (n:Int) ((i + 1:Nat):Int) m K rr) r) :
    Ev (fun k => mont_Product.l2 k a b (n:Int) s2 (c2:Int) (u:Int) (n:Int) (n:Int) (i:Int) m K rr) r:=by
  have htl:t < 18446744073709551616:=by rw [ht];exact Nat.mod_lt _ (by decide)
  have hvl:(t + c2) % 18446744073709551616 < 18446744073709551616:=Nat.mod_lt _ (by decide)
  have hql:q < 18446744073709551616:=by clear ht hq hK;omega
  have hwl:q + (t + c2) / 18446744073709551616 < 18446744073709551616:=by clear ht hq hK;omega
  have hat:at0 s2 n = (t:Int):=by rw [at0_nW hs2,ht]
  have hw1:Wd (s2.set (n - 1) (((t + c2) % 18446744073709551616:Nat):Int)):=dg_set hs2 ⟨by clear ht hq hK;omega,by clear ht hq hK;omega⟩ _
  have hat1:at0 (s2.set (n - 1) (((t + c2) % 18446744073709551616:Nat):Int)) (n + 1) = (q:Int):=by
    rw [at0_set (by clear ht hq hK;omega),if_neg (by clear ht hq hK;omega),at0_nW hs2,← hq,Nat.mod_eq_of_lt hql]
  have h3:=mp_third hs2 hn0 hl2 hvl hwl
  rw [← hq] at h3
  have hfin:=hK _ (by rw [List.length_set,List.length_set];exact hl2) (dg_set hw1 ⟨by clear ht hq hK h3;omega,by clear ht hq hK h3;omega⟩ _) h3
  clear ht hq hK h3
  have e1:wrap64 ((n:Int) + 1) = ((n + 1:Nat):Int):=by rw [w64 (by omega) (by omega)];omega
  have e1':wrap64 ((n:Int) - 1) = ((n - 1:Nat):Int):=by rw [w64 (by omega) (by omega)];omega
  have e8:IntKind.u64.wrap ((q:Int) + (((t + c2) / 18446744073709551616:Nat):Int)) = ((q + (t + c2) / 18446744073709551616:Nat):Int):=by rw [wU];omega
  have hadd:word_Add.f (t:Int) (c2:Int) 0 = some ((((t + c2) % 18446744073709551616:Nat):Int),(((t + c2) / 18446744073709551616:Nat):Int)):=by
    rw [sp_word_Add (wd_iff.2 ⟨by omega,by omega⟩) (wd_iff.2 ⟨by omega,by omega⟩) (wd_iff.2 ⟨by omega,by omega⟩)]
    congr 2 <;> omega
  refine Ev.step (fun k => mont_Product.l2.eq_2 ..) (ev_neg (by omega) (ev_pos (by omega) (ev_pos (by omega) ?_)))
  rw [rdA,hat,e1',e1]
  refine ev_bind0 hadd (ev_pos (by omega) (ev_pos (by omega) ?_))
  simp only [Int.toNat_natCast]
  refine ev_bind0 rfl (ev_pos (by omega) (ev_pos (by omega) ?_))
  rw [rdA,hat1,e8,w64_succ (i:=i) (by omega)]
  exact hfin
theorem mp_sumA {X S xb z c o n:Nat} (h:X + c * 18446744073709551616 ^ n = S + z * 18446744073709551616 ^ (n + 1) + xb) (hz:X / 18446744073709551616 ^ (n + 1) = z) (ho:o = X / 18446744073709551616 ^ n % 18446744073709551616) :
    X % 18446744073709551616 ^ n + (o + c) % 18446744073709551616 * 18446744073709551616 ^ n + (o + c) / 18446744073709551616 * 18446744073709551616 ^ (n + 1) = S + xb:=by
  have hX:=mp_split X n
  rw [hz,← ho] at hX
  have hdm:=Nat.div_add_mod (o + c) 18446744073709551616
  have k1:(o + c) % 18446744073709551616 * 18446744073709551616 ^ n + (o + c) / 18446744073709551616 * 18446744073709551616 ^ (n + 1) = o * 18446744073709551616 ^ n + c * 18446744073709551616 ^ n:=by
    rw [← Nat.add_mul]
    conv => rhs;rw [← hdm]
    rw [Nat.pow_succ',Nat.add_mul,Nat.add_comm]
    congr 1
    ac_rfl
  clear hdm ho hz
  obtain ⟨p1,e1⟩:∃ p,p = (o + c) % 18446744073709551616 * 18446744073709551616 ^ n:=⟨_,rfl⟩
  obtain ⟨p2,e2⟩:∃ p,p = (o + c) / 18446744073709551616 * 18446744073709551616 ^ (n + 1):=⟨_,rfl⟩
  obtain ⟨p3,e3⟩:∃ p,p = o * 18446744073709551616 ^ n:=⟨_,rfl⟩
  obtain ⟨p4,e4⟩:∃ p,p = c * 18446744073709551616 ^ n:=⟨_,rfl⟩
  obtain ⟨p5,e5⟩:∃ p,p = z * 18446744073709551616 ^ (n + 1):=⟨_,rfl⟩
  obtain ⟨p6,e6⟩:∃ p,p = X % 18446744073709551616 ^ n:=⟨_,rfl⟩
  rw [← e1,← e2,← e3,← e4] at k1
  rw [← e4,← e5] at h
  rw [← e3,← e5,← e6] at hX
  rw [← e1,← e2,← e6]
  clear e1 e2 e3 e4 e5 e6
  omega
theorem mp_sumB {Y T uM S' c t q n:Nat} (hn:0 < n) (hst:18446744073709551616 * S' = T + uM) (h2:18446744073709551616 * (Y % 18446744073709551616 ^ (n - 1) + c * 18446744073709551616 ^ (n - 1)) = T % 18446744073709551616 ^ n + uM)
    (ht:t = T / 18446744073709551616 ^ n % 18446744073709551616) (hq:q = T / 18446744073709551616 ^ (n + 1)) :
    S' = Y % 18446744073709551616 ^ (n - 1) + (t + c) % 18446744073709551616 * 18446744073709551616 ^ (n - 1) + (q + (t + c) / 18446744073709551616) * 18446744073709551616 ^ n:=by
  have hpn1:18446744073709551616 ^ n = 18446744073709551616 * 18446744073709551616 ^ (n - 1):=by rw [← Nat.pow_succ',show (n - 1).succ = n by omega]
  have hpn:18446744073709551616 ^ (n + 1) = 18446744073709551616 * 18446744073709551616 ^ n:=Nat.pow_succ'
  have hTs:=mp_split T n
  rw [← ht,← hq] at hTs
  have hdm:=Nat.div_add_mod (t + c) 18446744073709551616
  have k1:18446744073709551616 * ((t + c) % 18446744073709551616 * 18446744073709551616 ^ (n - 1)) + 18446744073709551616 * ((t + c) / 18446744073709551616 * 18446744073709551616 ^ n) = t * 18446744073709551616 ^ n + c * 18446744073709551616 ^ n:=by
    rw [← Nat.add_mul]
    conv => rhs;rw [← hdm]
    rw [Nat.add_mul,Nat.add_comm]
    congr 1
    · ac_rfl
    · rw [hpn1];ac_rfl
  have k2:18446744073709551616 * (c * 18446744073709551616 ^ (n - 1)) = c * 18446744073709551616 ^ n:=by rw [hpn1];ac_rfl
  have k3:18446744073709551616 * (q * 18446744073709551616 ^ n) = q * 18446744073709551616 ^ (n + 1):=by rw [hpn];ac_rfl
  rw [Nat.mul_add,k2] at h2
  rw [Nat.add_mul]
  clear hpn hpn1 hdm k2 ht hq
  obtain ⟨p1,e1⟩:∃ p,p = (t + c) % 18446744073709551616 * 18446744073709551616 ^ (n - 1):=⟨_,rfl⟩
  obtain ⟨p2,e2⟩:∃ p,p = (t + c) / 18446744073709551616 * 18446744073709551616 ^ n:=⟨_,rfl⟩
  obtain ⟨p3,e3⟩:∃ p,p = q * 18446744073709551616 ^ n:=⟨_,rfl⟩
  obtain ⟨p4,e4⟩:∃ p,p = c * 18446744073709551616 ^ n:=⟨_,rfl⟩
  obtain ⟨p5,e5⟩:∃ p,p = q * 18446744073709551616 ^ (n + 1):=⟨_,rfl⟩
  obtain ⟨p6,e6⟩:∃ p,p = t * 18446744073709551616 ^ n:=⟨_,rfl⟩
  obtain ⟨p7,e7⟩:∃ p,p = Y % 18446744073709551616 ^ (n - 1):=⟨_,rfl⟩
  obtain ⟨p8,e8⟩:∃ p,p = T % 18446744073709551616 ^ n:=⟨_,rfl⟩
  rw [← e1,← e2,← e6,← e4] at k1
  rw [← e3,← e5] at k3
  rw [← e7,← e4,← e8] at h2
  rw [← e8,← e6,← e5] at hTs
  rw [← e7,← e1,← e2,← e3]
  clear e1 e2 e3 e4 e5 e6 e7 e8
  omega
theorem mp_small {S M x y n q:Nat} (hS:S < 2 * M) (hM:M < 18446744073709551616 ^ n) (h:S = x + y + q * 18446744073709551616 ^ n):q < 2:=by
  rcases Nat.lt_or_ge q 2 with g | g
  · exact g
  · have:2 * 18446744073709551616 ^ n≤q * 18446744073709551616 ^ n:=Nat.mul_le_mul_right _ g
    omega
theorem mp_end {m a b rr:List Int} {K:Int} (hm:Wd m) (n:Nat) (hn:m.length = n) (hn3:n≤300) (s:List Int) (z S:Nat) (hl:s.length = n + 2) (hs:Wd s) (hS:S < 2 * nW m) (h:nW s = S + z * 18446744073709551616 ^ (n + 1)) :
    Ev (fun k => mont_Product.l0 k a b (n:Int) s (n:Int) (n:Int) m K rr) (wds n (S % nW m)):=by
  have hMl:nW m < 18446744073709551616 ^ n:=by rw [← hn];exact nW_lt hm
  have hpn:18446744073709551616 ^ (n + 1) = 18446744073709551616 * 18446744073709551616 ^ n:=Nat.pow_succ'
  have hpp:0 < 18446744073709551616 ^ n:=Nat.pow_pos (by decide)
  have hz:z * 18446744073709551616 ^ (n + 1) = z * 18446744073709551616 * 18446744073709551616 ^ n:=by rw [hpn,← Nat.mul_assoc]
  obtain ⟨less,low,f,r1,r2,r3,r4,r5,r6⟩:=dq_round hm (by rw [hn];exact hn3) hS
  rw [hn] at r1 r4 r5
  have htk:s.take n = wds n S:=by
    rw [show s = wds (n + 2) (nW s) from by rw [← hl];exact (dgs_num hs).symm,lq_take _ (Nat.le_add_right _ _)]
    show dgs _ _ _ = dgs _ _ _
    rw [← dgs_mod n (nW s),← dgs_mod n S,h,hz,Nat.add_mul_mod_self_right]
  have hlt:S / 18446744073709551616 ^ n < 18446744073709551616:=(Nat.div_lt_iff_lt_mul hpp).2 (by
    have h1:2 * nW m≤2 * 18446744073709551616 ^ n:=Nat.mul_le_mul_left _ (Nat.le_of_lt hMl)
    have h2:2 * 18446744073709551616 ^ n≤18446744073709551616 * 18446744073709551616 ^ n:=Nat.mul_le_mul_right _ (by decide)
    exact Nat.lt_of_lt_of_le hS (Nat.le_trans h1 h2))
  have hrd:at0 s n = ((S / 18446744073709551616 ^ n:Nat):Int):=by
    rw [at0_nW hs,h,hz,Nat.add_mul_div_right _ _ hpp,Nat.add_mul_mod_self_right,Nat.mod_eq_of_lt hlt]
  clear h hz hpn hpp hMl hlt hS
  refine Ev.step (fun k => mont_Product.l0.eq_2 ..) (ev_neg (by omega) (ev_pos (by omega) (ev_pos (by omega) ?_)))
  rw [Int.toNat_natCast,htk,rdA,hrd]
  refine ev_bind0 r1 (ev_pos (by omega) ?_)
  simp only []
  rw [r4]
  exact ev_bind0 r5 (ev_const rfl)
theorem mp_outer {m a b rr:List Int} {Kn:Nat} (hm:Wd m) (ha:Wd a) (hb:Wd b) (n:Nat) (hn:m.length = n) (hna:a.length = n) (hnb:b.length = n) (hn0:0 < n) (hn3:n≤300) (hKl:Kn < 18446744073709551616) (hK:(nW m * Kn + 1) % 18446744073709551616 = 0) (hM:0 < nW m) (hbM:nW b < nW m) :
    ∀ (d i:Nat) (s:List Int) (z:Nat),i + d = n→s.length = n + 2→Wd s→nW s = mpS (nW a) (nW b) (nW m) Kn i + z * 18446744073709551616 ^ (n + 1) →
      Ev (fun k => mont_Product.l0 k a b (n:Int) s (n:Int) (i:Int) m (Kn:Int) rr) (wds n (mpS (nW a) (nW b) (nW m) Kn n % nW m)):=by
  have hMl:=Aside0.mk (show nW m < 18446744073709551616 ^ n by rw [← hn];exact nW_lt hm)
  have HS:=Aside0.mk (fun i => mpS_lt (A:=nW a) (b:=nW b) hK hbM hM i)
  have HT:=Aside0.mk (fun i => mpS_step (A:=nW a) (b:=nW b) hK i)
  have HX:=Aside0.mk (fun X => mp_exact (X:=X) hK)
  clear hK hbM
  intro d
  induction d with
  | zero =>
    intro i s z hi hl hs h
    have h:=Aside0.mk h
    obtain rfl:i = n:=by omega
    exact mp_end hm i hn hn3 s z _ hl hs (HS.out i) h.out
  | succ d ih =>
    intro i s z hi hl hs h
    have ih:=Aside0.mk ih
    have h:=Aside0.mk h
    have hzz:=Aside0.mk (show nW s / 18446744073709551616 ^ (n + 1) = z from by
      have hS:=HS.out i
      have hp:2 * 18446744073709551616 ^ n≤18446744073709551616 ^ (n + 1):=by rw [Nat.pow_succ'];exact Nat.mul_le_mul_right _ (by decide)
      have h1:2 * nW m≤2 * 18446744073709551616 ^ n:=Nat.mul_le_mul_left _ (Nat.le_of_lt hMl.out)
      rw [h.out,Nat.add_mul_div_right _ _ (Nat.pow_pos (by decide)),Nat.div_eq_of_lt (Nat.lt_of_lt_of_le hS (Nat.le_trans h1 hp)),Nat.zero_add])
    refine Ev.step (fun k => mont_Product.l0.eq_2 ..) (ev_pos (by omega) (ev_bind0 rfl ?_))
    refine mp_inner ha hb n i hn hna hnb hn3 (by omega) (nW s) z _ ?_ n 0 0 s (by omega) hl hs (by decide) hzz.out (by simp [Nat.mod_one])
    intro s1 c1 hl1 hs1 hc1 hz1 h1
    rw [h.out] at h1
    have hA:=mp_sumA h1 hz1 rfl
    refine mp_mid hm n i c1 _ _ _ hn hn0 hn3 hKl hl1 hs1 hc1 rfl hA rfl (HX.out _) _ ?_
    have hst:=HT.out i
    intro y c hyl hy hc hTv hce
    have hd0:n - 1 + 1 = n:=by omega
    refine mp_second hm n i hn hn0 hn3 _ _ (Nat.mod_lt _ (by decide)) _ ?_ (n - 1) 0 c y (by omega) hyl hy hc (by rw [hTv]) (by rw [Nat.pow_zero,Nat.mod_one,Nat.zero_add,Nat.mul_one,Nat.zero_add,Nat.pow_one];exact hce)
    intro s2 c2 hl2 hs2 hc3 hd2 h2
    have hB:=mp_sumB hn0 hst h2 (t:=nW s2 / 18446744073709551616 ^ n % 18446744073709551616) (q:=nW s2 / 18446744073709551616 ^ (n + 1)) (by rw [hd2]) (by rw [Nat.pow_succ,← Nat.div_div_eq_div_mul,hd2,Nat.div_div_eq_div_mul])
    refine mp_last n i c2 _ _ _ hn0 hn3 (by omega) hl2 hs2 hc3 rfl rfl (mp_small (HS.out (i + 1)) hMl.out hB) _ ?_
    intro s3 hl3 hs3 h3
    rw [← hB] at h3
    exact ih.out (i + 1) s3 _ (by omega) hl3 hs3 h3
theorem sp_mont_Product {m a b rr:List Int} {K:Int} (hm:Wd m) (ha:Wd a) (hb:Wd b) (hK:IsK (nW m) K) (ho:nW m % 2 = 1) (hna:a.length = m.length) (hnb:b.length = m.length) (hn3:m.length≤300) (hbM:nW b < nW m) :
    ∃ r,r < nW m∧(r * 18446744073709551616 ^ m.length) % nW m = (nW a * nW b) % nW m∧Ev (fun k => mont_Product.f k m K rr a b) (wds m.length r):=by
  obtain ⟨Kn,rfl,hKl,hKe⟩:=isK_nat hK ho
  have hM:0 < nW m:=by omega
  have hn0:0 < m.length:=by
    rcases Nat.eq_zero_or_pos m.length with h | h
    · have:=nW_lt hm
      rw [h,Nat.pow_zero] at this
      omega
    · exact h
  refine ⟨mpS (nW a) (nW b) (nW m) Kn m.length % nW m,Nat.mod_lt _ hM,?_,?_⟩
  · obtain ⟨Q,hQ⟩:=mpS_rel (A:=nW a) (b:=nW b) hKe m.length
    rw [Nat.mul_mod,Nat.mod_mod,← Nat.mul_mod,hQ,Nat.add_mul_mod_self_right,← hna,Nat.mod_eq_of_lt (nW_lt ha)]
  · have e1:wrap64 ((m.length:Int) + 2) = ((m.length + 2:Nat):Int):=by rw [w64 (by omega) (by omega)];omega
    unfold mont_Product.f
    rw [e1]
    refine ev_pos (by omega) (ev_pos (by rw [Int.toNat_natCast];omega) ?_)
    rw [Int.toNat_natCast]
    have hz:List.replicate (m.length + 2) (0:Int) = wds (m.length + 2) 0:=(dgs_zero _).symm
    refine mp_outer hm ha hb m.length rfl hna hnb hn0 hn3 hKl hKe hM hbM m.length 0 _ 0 (by omega) List.length_replicate (by rw [hz];exact wds_Wd _ _) ?_
    rw [hz,nW_wds (Nat.pow_pos (by decide)),Nat.zero_mul]
    rfl
end Go.Proofs.Ytonpekldcnankaa.X
end
section
namespace Go.Proofs.Ytonpekldcnankaa.X
open Go.RowKit Go.Proofs.YtonpekldcnankaaW.PrintWords Go.Proofs.YtonpekldcnankaaW.PrintLast Go.Proofs.Ytonpekldcnankaa.Ma
set_option linter.unusedVariables false
set_option linter.unusedSimpArgs false
theorem isMod_of_chk7 {m rr:List Int} {K:Int} {R:List Int × Int × List Int × Int} (h:SetR (nW m) R) (hc:chkB R m K rr = true):IsMod m K rr:=by
  unfold chkB at hc
  split at hc
  · rename_i h0
    split at hc
    · rename_i h1
      split at hc
      · rename_i h2
        obtain ⟨h3,h4⟩:=IsMod.of h h0
        have h5:=of_decide_eq_true hc
        rw [h1,h2,h5] at h3
        exact h3
      · exact absurd hc (by simp)
    · exact absurd hc (by simp)
  · exact absurd hc (by simp)
theorem isMod_of_f {m rr:List Int} {K:Int} {k:Nat} (hm:Wd m) (hl:m.length≤1000) (h:mont_Check.f k m K rr = some true):IsMod m K rr:=by
  obtain ⟨R,hR,k0,hk⟩:=sp_mont_Check (K:=K) (rr:=rr) hm hl
  refine isMod_of_chk7 hR ?_
  obtain ⟨k1,hk1⟩:=Ev.of (fun k => mont_Check.mono m K rr k) h
  exact Option.some.inj ((hk (max k0 k1) (Nat.le_max_left _ _)).symm.trans (hk1 (max k0 k1) (Nat.le_max_right _ _)))
theorem sp_ring_Times {m rr a b:List Int} {K:Int} (h:IsMod m K rr) (ha:Wd a) (hb:Wd b) (hna:a.length = m.length) (hnb:b.length = m.length) (hbM:nW b < nW m) :
    Ev (fun k => ring_Times.f k m K rr a b) (wds m.length (nW a * nW b % nW m)):=by
  have hl:=h.len
  obtain ⟨hm,h130,h1,ho,hK,_,_⟩:=id h
  obtain ⟨r1,r2,r3⟩:=h.rr
  have hM:=nW_lt hm
  have hrl:rr.length = m.length:=of_decide_eq_true (Bool.and_eq_true_iff.1 r2).1
  obtain ⟨r,g1,g2,g3⟩:=sp_mont_Product (rr:=rr) hm ha r1 hK ho hna hrl (by omega) (by rw [r3];exact Nat.mod_lt _ (by omega))
  have e1:nW (wds m.length r) = r:=nW_wds (Nat.lt_trans g1 hM)
  obtain ⟨s,s1,s2,s3⟩:=sp_mont_Product (rr:=rr) hm (wds_Wd m.length r) hb hK ho (dgs_length _ _ _) hnb (by omega) hbM
  rw [e1] at s2
  have hr:r % nW m = (nW a * 18446744073709551616 ^ m.length) % nW m:=by
    refine mp_invW ho (n:=m.length) ?_
    rw [g2,r3,Nat.mul_mod_mod,Nat.mul_assoc,← Nat.pow_add,show m.length + m.length = 2 * m.length by omega]
  have hs:s % nW m = (nW a * nW b) % nW m:=by
    refine mp_invW ho (n:=m.length) ?_
    rw [s2,Nat.mul_mod,hr,← Nat.mul_mod]
    congr 1
    rw [Nat.mul_assoc,Nat.mul_comm (18446744073709551616 ^ _),← Nat.mul_assoc]
  rw [Nat.mod_eq_of_lt s1] at hs
  rw [hs] at s3
  exact ev_bind g3 (ev_bind s3 (ev_const rfl))
end Go.Proofs.Ytonpekldcnankaa.X
end
section
namespace Go.Proofs.Ytonpekldcnankaa.X
open Go.RowKit Go.Proofs.YtonpekldcnankaaW.PrintWords Go.Proofs.YtonpekldcnankaaW.PrintLast Go.Proofs.YtonpekldcnankaaW.PrintMore Go.Proofs.Ytonpekldcnankaa.Ma
set_option linter.unusedVariables false
set_option linter.unusedSimpArgs false
theorem ring_Mul1_ok (A0:Option Addr) (c0:Nat) (m0:List Int) (m1:Int) (A2:Option Addr) (c2:Nat) (m2:List Int) (Aa:Option Addr) (ca:Nat) (la:List Int) (Ab:Option Addr) (cb:Nat) (lb:List Int) (bt bm ba bb:Nat) (P:Value→World→Prop) (w:World)
    (ht:w.heap[bt]? = some (.cells #[.pointer none] 71 (0,0))) (hm:w.heap[bm]? = some (.cells #[.slice A0 m0.length c0,.int .u64 m1,.slice A2 m2.length c2] 26 (0,0))) (ha:w.heap[ba]? = some (.cells #[.slice Aa la.length ca] 23 (0,0))) (hb:w.heap[bb]? = some (.cells #[.slice Ab lb.length cb] 23 (0,0)))
    (hd:Calls Try.prog 77 #[.pointer none,.agg #[.slice A0 m0.length c0,.int .u64 m1,.slice A2 m2.length c2],.slice Aa la.length ca,.slice Ab lb.length cb] w fun e w' => ∃ v,e = .returned v∧P v w') :
    Calls Try.prog 76 #[.pointer (some ⟨bt,0,none⟩),.pointer (some ⟨bm,0,none⟩),.pointer (some ⟨ba,0,none⟩),.pointer (some ⟨bb,0,none⟩)] w fun e w' => ∃ v,e = .returned v∧P v w':=by
  have hu59:=Try.underlying26
  have HD:=Aside0.mk hd
  have zt:=cell_of_one ht
  have za:=cell_of_one ha
  have zb:=cell_of_one hb
  have z0:=(blk_cell hm 0).trans rfl
  have z1:=(blk_cell hm 1).trans rfl
  have z2:=(blk_cell hm 2).trans rfl
  clear hd ht hm ha hb
  go_enter Try.func76,Try.ntmps76
  go_wp2_with (go_at_call 77;(with_reducible refine HD.out.mono ?_);rintro e w5 ⟨v,rfl,hp⟩;have HP:=Aside0.mk hp;clear hp)
  go_ret
  exact ⟨_,rfl,HP.out⟩
theorem ring_Mul_enter (A0:Option Addr) (c0:Nat) (m0:List Int) (m1:Int) (A2:Option Addr) (c2:Nat) (m2:List Int) (Aa:Option Addr) (ca:Nat) (la:List Int) (Ab:Option Addr) (cb:Nat) (lb:List Int) (r1:List Int) (r2:Int) (w:World)
    (hD:∀ (W:World) (gl:Nat),Below w.heap.size w W→(W.heap[w.heap.size]? = some (.cells #[.pointer none] 71 (0,0))∧W.heap[w.heap.size + 1]? = some (.cells #[.slice A0 m0.length c0,.int .u64 m1,.slice A2 m2.length c2] 26 (0,0))∧W.heap[w.heap.size + 1 + 1]? = some (.cells #[.slice Aa la.length ca] 23 (0,0))∧W.heap[w.heap.size + 1 + 1 + 1]? = some (.cells #[.slice Ab lb.length cb] 23 (0,0))) →
      W.heap[gl]? = some (.cells #[.slice Aa la.length ca,.slice Ab lb.length cb] 23 (0,0))→Calls Try.prog 63 #[.agg #[.slice A0 m0.length c0,.int .u64 m1,.slice A2 m2.length c2],.func (.func 76) #[] #[.pointer (some ⟨w.heap.size,0,none⟩),.pointer (some ⟨w.heap.size + 1,0,none⟩),.pointer (some ⟨w.heap.size + 1 + 1,0,none⟩),.pointer (some ⟨w.heap.size + 1 + 1 + 1,0,none⟩)],.slice (some ⟨gl,0,none⟩) 2 2] W fun e w' => ∃ v,e = .returned (.tuple #[v,.int .i64 r2])∧Kd.R (Kd.int .u64) 24 w' w.heap.size (fun _ => True) v r1∧Below w.heap.size w w') :
    Calls Try.prog 29 #[.pointer none,.agg #[.slice A0 m0.length c0,.int .u64 m1,.slice A2 m2.length c2],.slice Aa la.length ca,.slice Ab lb.length cb] w fun e w' => ∃ v,e = .returned (.tuple #[v,.int .i64 r2])∧Kd.R (Kd.int .u64) 24 w' w.heap.size (fun _ => True) v r1∧Below w.heap.size w w':=by
  obtain ⟨w0,hw0⟩:∃ w0:World,w0 = (((w.alloc (.cells #[.pointer none] 71)).alloc (.cells #[.slice A0 m0.length c0,.int .u64 m1,.slice A2 m2.length c2] 26)).alloc (.cells #[.slice Aa la.length ca] 23)).alloc (.cells #[.slice Ab lb.length cb] 23):=⟨_,rfl⟩
  obtain ⟨hb,hB,hsz⟩:=rg_boxes4 w _ _ _ _ _ _ _ _ w0 hw0
  have hu59:=Try.underlying26
  have hl:=blk_new w0 (Obj.cells #[.slice Aa la.length ca,.slice Ab lb.length cb] 23)
  rw [hsz] at hl
  have hc:=hD (w0.alloc (Obj.cells #[.slice Aa la.length ca,.slice Ab lb.length cb] 23)) (w.heap.size + 1 + 1 + 1 + 1) (below_alloc hB _) ⟨blk_alloc hb.1 _,blk_alloc hb.2.1 _,blk_alloc hb.2.2.1 _,blk_alloc hb.2.2.2 _⟩ hl
  clear hD hb hB hsz hl
  subst hw0
  have HC:=Aside0.mk hc
  clear hc
  go_enter Try.func29,Try.ntmps29
  go_wp2_with (go_at_call 63;(with_reducible refine HC.out.mono ?_);rintro e w5 ⟨v,rfl,hp⟩;have HP:=Aside0.mk hp;clear hp)
  go_ret2
  exact ⟨_,rfl,HP.out⟩
theorem ring_Mul_walk (k:Nat) (A0:Option Addr) (c0:Nat) (m0:List Int) (m1:Int) (A2:Option Addr) (c2:Nat) (m2:List Int) (Aa:Option Addr) (ca:Nat) (la:List Int) (Ab:Option Addr) (cb:Nat) (lb:List Int) (r1:List Int) (r2:Int) (w:World) (hr0:Kd.C (Kd.int .u64) w A0 m0.length m0) (hc0:m0.length≤c0) (hr2:Kd.C (Kd.int .u64) w A2 m2.length m2) (hc2:m2.length≤c2) (hra:Kd.C (Kd.int .u64) w Aa la.length la) (hca:la.length≤ca) (hrb:Kd.C (Kd.int .u64) w Ab lb.length lb) (hcb:lb.length≤cb)
    (h:Rg.out (mont_Check.f k m0 m1 m2) m0 [la,lb] (dgs 18446744073709551616 m0.length (num 18446744073709551616 la * num 18446744073709551616 lb % num 18446744073709551616 m0)) = some (r1,r2)) :
    Calls Try.prog 29 #[.pointer none,.agg #[.slice A0 m0.length c0,.int .u64 m1,.slice A2 m2.length c2],.slice Aa la.length ca,.slice Ab lb.length cb] w fun e w' => ∃ v,e = .returned (.tuple #[v,.int .i64 r2])∧Kd.R (Kd.int .u64) 24 w' w.heap.size (fun _ => True) v r1∧Below w.heap.size w w':=by
  unfold Rg.out at h
  split at h
  · rename_i hok0
    have hok:=Rg.ok_iff.1 hok0
    have hWa:Wd la:=hok.1.2 _ (by simp)
    have hWb:Wd lb:=hok.1.2 _ (by simp)
    cases e:mont_Check.f k m0 m1 m2 with
    | none => rw [e] at h;exact absurd h (by simp)
    | some chk =>
      rw [e] at h
      simp only [Option.bind_some] at h
      refine ring_Mul_enter A0 c0 m0 m1 A2 c2 m2 Aa ca la Ab cb lb r1 r2 w fun W gl hW hb hl => ?_
      have hC:=rg_C2 hl (Kd.C_below hra hW) hca (Kd.C_below hrb hW) hcb
      split at h
      · rename_i hy
        simp only [Option.some.injEq,Prod.mk.injEq] at h
        obtain ⟨rfl,rfl⟩:=h
        obtain ⟨rfl,hmem⟩:=hy
        have hmm:=Rg.mem_iff.1 hmem
        refine (ring_done_yes k A0 c0 m0 m1 A2 c2 m2 76 _ _ _ [la,lb] (fun w1 v w' => Kd.R (Kd.int .u64) 24 w' w1.heap.size (fun _ => True) v (dgs 18446744073709551616 m0.length (num 18446744073709551616 la * num 18446744073709551616 lb % num 18446744073709551616 m0))∧Below w1.heap.size w1 w') W (Kd.C_below hr0 hW) hc0 (Kd.C_below hr2 hW) hc2 hC (by simp) e (Rg.at_mem hok0 hmem) (fun _ => rfl) (fun w1 hw1 => ?_)).mono ?_
        · have hW1:=below_then hW hW.size hw1
          refine ring_Mul1_ok A0 c0 m0 m1 A2 c2 m2 Aa ca la Ab cb lb _ _ _ _ _ w1 (blk_below hb.1 hw1) (blk_below hb.2.1 hw1) (blk_below hb.2.2.1 hw1) (blk_below hb.2.2.2 hw1) ?_
          have hmod:=isMod_of_f hok.1.1 (by omega) e
          obtain ⟨kv,hval⟩:=sp_ring_Times hmod hWa hWb (hmm _ (by simp)).1 (hmm _ (by simp)).1 (hmm lb (by simp)).2
          have hval:=hval kv (Nat.le_refl _)
          exact ring_Times.calls kv A0 c0 m0 m1 A2 c2 m2 Aa ca la Ab cb lb _ w1 (Kd.C_below hr0 hW1) hc0 (Kd.C_below hr2 hW1) hc2 (Kd.C_below hra hW1) hca (Kd.C_below hrb hW1) hcb hval
        · rintro e w' ⟨w1,v,g1,rfl,g2,g3⟩
          have hW1:=below_then hW hW.size g1
          exact ⟨v,rfl,Kd.R_lower g2 hW1.size,below_then hW1 hW1.size g3⟩
      · rename_i hy
        simp only [Option.some.injEq,Prod.mk.injEq] at h
        obtain ⟨rfl,rfl⟩:=h
        refine (ring_done_no k A0 c0 m0 m1 A2 c2 m2 _ _ _ [la,lb] chk W (Kd.C_below hr0 hW) hc0 (Kd.C_below hr2 hW) hc2 hC (by simp) e (Rg.at_any hok0) (fun hc => Rg.at_no hok0 (fun hm => hy ⟨hc,hm⟩))).mono ?_
        rintro e w' ⟨rfl,g⟩
        exact ⟨_,rfl,Kd.R_nil _ _ _ _ _,below_then hW hW.size g⟩
  · exact absurd h (by simp)
end Go.Proofs.Ytonpekldcnankaa.X
end
section
namespace Go.Proofs.Ytonpekldcnankaa.X
open Go.RowKit Go.Proofs.YtonpekldcnankaaW.PrintWords Go.Proofs.YtonpekldcnankaaW.PrintLast Go.Proofs.YtonpekldcnankaaW.PrintMore
attribute [local go_sem] max2_int min2_int max_two min_two max_three min_three max_four min_four
set_option linter.unusedVariables false
set_option linter.unusedSimpArgs false
def ring_Mul.f (k:Nat) (m0:List Int) (m1:Int) (m2:List Int) (a b:List Int):Option (List Int × Int) :=
 Rg.out (mont_Check.f k m0 m1 m2) m0 [a,b] (Ma.dgs 18446744073709551616 m0.length (Ma.num 18446744073709551616 a * Ma.num 18446744073709551616 b % Ma.num 18446744073709551616 m0))
theorem ring_Mul.calls (k:Nat) (A1_0:Option Addr) (c1_0:Nat) (l1_0:List Int) (a1_1:Int) (A1_2:Option Addr) (c1_2:Nat) (l1_2:List Int) (A2:Option Addr) (c2:Nat) (l2:List Int) (A3:Option Addr) (c3:Nat) (l3:List Int) (r1:List Int) (r2:Int) (w:World) (hr1_0:Kd.C (Kd.int .u64) w A1_0 l1_0.length l1_0) (hc1_0:l1_0.length≤c1_0) (hr1_2:Kd.C (Kd.int .u64) w A1_2 l1_2.length l1_2) (hc1_2:l1_2.length≤c1_2) (hr2:Kd.C (Kd.int .u64) w A2 l2.length l2) (hc2:l2.length≤c2) (hr3:Kd.C (Kd.int .u64) w A3 l3.length l3) (hc3:l3.length≤c3) (h:ring_Mul.f k l1_0 a1_1 l1_2 l2 l3 = some (r1,r2)) :
  Calls Try.prog 29 #[.pointer none,.agg #[.slice A1_0 l1_0.length c1_0,.int .u64 a1_1,.slice A1_2 l1_2.length c1_2],.slice A2 l2.length c2,.slice A3 l3.length c3] w fun e w' => ∃ v0_:Value,e = .returned (.tuple #[v0_,.int .i64 r2])∧Kd.R (Kd.int .u64) 24 w' w.heap.size (fun _ => True) v0_ r1∧Below w.heap.size w w' :=
 ring_Mul_walk k A1_0 c1_0 l1_0 a1_1 A1_2 c1_2 l1_2 A2 c2 l2 A3 c3 l3 r1 r2 w hr1_0 hc1_0 hr1_2 hc1_2 hr2 hc2 hr3 hc3 h
end Go.Proofs.Ytonpekldcnankaa.X
end
section
namespace Go.Proofs.Ytonpekldcnankaa.X
open Go.RowKit Go.Proofs.YtonpekldcnankaaW.PrintWords Go.Proofs.YtonpekldcnankaaW.PrintLast Go.Proofs.YtonpekldcnankaaW.PrintMore
attribute [local go_sem] max2_int min2_int max_two min_two max_three min_three max_four min_four
set_option linter.unusedVariables false
set_option linter.unusedSimpArgs false
def sconcelaw07_product.f (k:Nat) (l0_0:List Int) (a0_1:Int) (l0_2:List Int) (l1:List Int) (l2:List Int):Option (List Int):=(ring_Mul.f k l0_0 a0_1 l0_2 l1 l2).bind fun bt672 => (some bt672.1)
theorem sconcelaw07_product.calls (k:Nat) (A0_0:Option Addr) (c0_0:Nat) (l0_0:List Int) (a0_1:Int) (A0_2:Option Addr) (c0_2:Nat) (l0_2:List Int) (A1:Option Addr) (c1:Nat) (l1:List Int) (A2:Option Addr) (c2:Nat) (l2:List Int) (r:List Int) (w:World) (hr0_0:Kd.C (Kd.int .u64) w A0_0 l0_0.length l0_0) (hc0_0:l0_0.length≤c0_0) (hr0_2:Kd.C (Kd.int .u64) w A0_2 l0_2.length l0_2) (hc0_2:l0_2.length≤c0_2) (hr1:Kd.C (Kd.int .u64) w A1 l1.length l1) (hc1:l1.length≤c1) (hr2:Kd.C (Kd.int .u64) w A2 l2.length l2) (hc2:l2.length≤c2) (h:sconcelaw07_product.f k l0_0 a0_1 l0_2 l1 l2 = some r) :
  Calls Try.prog 35 #[.agg #[.slice A0_0 l0_0.length c0_0,.int .u64 a0_1,.slice A0_2 l0_2.length c0_2],.slice A1 l1.length c1,.slice A2 l2.length c2] w fun e w' => ∃ v0_:Value,e = .returned (v0_)∧Kd.R (Kd.int .u64) 24 w' w.heap.size (fun _ => True) v0_ r∧Below w.heap.size w w':=by
 have hu26:=Try.underlying26
 have HR0_0:=Aside0.mk hr0_0
 have HC0_0:=Aside0.mk hc0_0
 clear hr0_0 hc0_0
 have HR0_2:=Aside0.mk hr0_2
 have HC0_2:=Aside0.mk hc0_2
 clear hr0_2 hc0_2
 have HR1:=Aside0.mk hr1
 have HC1:=Aside0.mk hc1
 clear hr1 hc1
 have HR2:=Aside0.mk hr2
 have HC2:=Aside0.mk hc2
 clear hr2 hc2
 have HB:=Aside0.mk (Below.refl w.heap.size w)
 have H:((ring_Mul.f k l0_0 a0_1 l0_2 l1 l2).bind fun bt672 => (some bt672.1)) = some r:=h
 clear h
 replace H:=Option.bind_eq_some_iff.mp H
 obtain ⟨⟨t672,t675⟩,A40,H⟩:=H
 replace H:(some t672) = some r:=H
 have A4:=Aside0.mk A40
 clear A40
 obtain rfl:=Option.some.inj H
 go_enter Try.func35,Try.ntmps35
 go_wp2_with (first | ((with_reducible refine gate_dst (N:=3) rfl ?_);refine box_event ?hg (N:=3) ?hd (cs:=#[.slice A0_0 l0_0.length c0_0,.int .u64 a0_1,.slice A0_2 l0_2.length c0_2]) (t:=26) ?hr ?_;(case hd => rfl);(case hg => rfl);(case hr => first | (go_simp;done) | (go_simp;rfl));intro gb671 hg w5 hbox hb;have n0_:=Aside0.mk (below_step (vB HB.out) hb);have n1_:=Aside0.mk (hbox);have n2_:=Aside0.mk ((by rw [hg];exact (below_size (vB HB.out)):w.heap.size≤gb671));have n3_:=Aside0.mk ((by rw [hg];exact (below_size (vB HB.out)):w.heap.size≤gb671));clear HB;have HB:=n0_;have BK671:=n1_;have GW671:=n2_;have GE671:=n3_;clear n0_ n1_ n2_ n3_;clear hb hbox hg;have hcz6_0:w5.cell? ⟨gb671,0,none⟩ = some (.slice A0_0 l0_0.length c0_0):=(blk_cell BK671.out 0).trans rfl;have hcz6_1:w5.cell? ⟨gb671,1,none⟩ = some (.int .u64 a0_1):=(blk_cell BK671.out 1).trans rfl;have hcz6_2:w5.cell? ⟨gb671,2,none⟩ = some (.slice A0_2 l0_2.length c0_2):=(blk_cell BK671.out 2).trans rfl;have hfz6_0:=blk_frozen BK671.out 0;have hfz6_1:=blk_frozen BK671.out 1;have hfz6_2:=blk_frozen BK671.out 2) | ((with_reducible refine gate_callee (f:=29) rfl ?_);refine goesL_ (some 13) rfl rfl Try.func29 (by kernel_rfl) rfl #[.pointer none,.agg #[.slice A0_0 l0_0.length c0_0,.int .u64 a0_1,.slice A0_2 l0_2.length c0_2],.slice A1 l1.length c1,.slice A2 l2.length c2] rfl vA ?_;(with_reducible refine (ring_Mul.calls k  _ _ l0_0 a0_1 _ _ l0_2 _ _ l1 _ _ l2 t672 t675 _ ?side1 ?side2 ?side3 ?side4 ?side5 ?side6 ?side7 ?side8 A4.out).mono ?_);(case side1 => repeat (first | exact (Kd.C_below HR0_0.out HB.out) | (with_reducible refine Kd.C_alloc ?_ _) | (with_reducible refine Kd.C_drewN ?_ _) | (with_reducible refine Kd.C_drew ?_)));(case side2 => exact HC0_0.out);(case side3 => repeat (first | exact (Kd.C_below HR0_2.out HB.out) | (with_reducible refine Kd.C_alloc ?_ _) | (with_reducible refine Kd.C_drewN ?_ _) | (with_reducible refine Kd.C_drew ?_)));(case side4 => exact HC0_2.out);(case side5 => repeat (first | exact (Kd.C_below HR1.out HB.out) | (with_reducible refine Kd.C_alloc ?_ _) | (with_reducible refine Kd.C_drewN ?_ _) | (with_reducible refine Kd.C_drew ?_)));(case side6 => exact HC1.out);(case side7 => repeat (first | exact (Kd.C_below HR2.out HB.out) | (with_reducible refine Kd.C_alloc ?_ _) | (with_reducible refine Kd.C_drewN ?_ _) | (with_reducible refine Kd.C_drew ?_)));(case side8 => exact HC2.out);rintro e w7 ⟨v673,rfl,ho0,hb⟩;refine ⟨_,rfl,?_⟩;have n0_:=Aside0.mk (Kd.R_lower ho0 (below_size (vBg HB.out GE671.out)));have n1_:=Aside0.mk (blk_below (g:=gb671) (o:=.cells #[.slice A0_0 l0_0.length c0_0,.int .u64 a0_1,.slice A0_2 l0_2.length c0_2] 26 (0,0)) (vK BK671.out) hb);have n2_:=Aside0.mk (below_step (vBg HB.out GE671.out) hb);clear BK671;clear HB;have HO674:=n0_;have BK671:=n1_;have HB:=n2_;clear n0_ n1_ n2_;(try clear hb);(try clear hb2);(try clear hk);(try clear hi);(try clear ho0)))
 go_ret
 exact ⟨_,by first | rfl | (simp [errW_none,errW_some] <;> rfl) | (simp [*,errW_none,errW_some] <;> rfl),by (with_reducible repeat (first | apply Kd.R_alloc | apply Kd.R_drewN | apply Kd.R_drew));exact HO674.out,by repeat (first | (with_reducible first | exact HB.out | apply below_alloc | apply pw_below_drewN | apply below_drew1 | refine below_set ?_ GE671.out) | exact HB.out)⟩
def sconcelaw07_difference.f (k:Nat) (l0_0:List Int) (a0_1:Int) (l0_2:List Int) (l1:List Int) (l2:List Int):Option (List Int):=(ring_Sub.f k l0_0 a0_1 l0_2 l1 l2).bind fun bt677 => (some bt677.1)
theorem sconcelaw07_difference.calls (k:Nat) (A0_0:Option Addr) (c0_0:Nat) (l0_0:List Int) (a0_1:Int) (A0_2:Option Addr) (c0_2:Nat) (l0_2:List Int) (A1:Option Addr) (c1:Nat) (l1:List Int) (A2:Option Addr) (c2:Nat) (l2:List Int) (r:List Int) (w:World) (hr0_0:Kd.C (Kd.int .u64) w A0_0 l0_0.length l0_0) (hc0_0:l0_0.length≤c0_0) (hr0_2:Kd.C (Kd.int .u64) w A0_2 l0_2.length l0_2) (hc0_2:l0_2.length≤c0_2) (hr1:Kd.C (Kd.int .u64) w A1 l1.length l1) (hc1:l1.length≤c1) (hr2:Kd.C (Kd.int .u64) w A2 l2.length l2) (hc2:l2.length≤c2) (h:sconcelaw07_difference.f k l0_0 a0_1 l0_2 l1 l2 = some r) :
  Calls Try.prog 36 #[.agg #[.slice A0_0 l0_0.length c0_0,.int .u64 a0_1,.slice A0_2 l0_2.length c0_2],.slice A1 l1.length c1,.slice A2 l2.length c2] w fun e w' => ∃ v0_:Value,e = .returned (v0_)∧Kd.R (Kd.int .u64) 24 w' w.heap.size (fun _ => True) v0_ r∧Below w.heap.size w w':=by
 have hu26:=Try.underlying26
 have HR0_0:=Aside0.mk hr0_0
 have HC0_0:=Aside0.mk hc0_0
 clear hr0_0 hc0_0
 have HR0_2:=Aside0.mk hr0_2
 have HC0_2:=Aside0.mk hc0_2
 clear hr0_2 hc0_2
 have HR1:=Aside0.mk hr1
 have HC1:=Aside0.mk hc1
 clear hr1 hc1
 have HR2:=Aside0.mk hr2
 have HC2:=Aside0.mk hc2
 clear hr2 hc2
 have HB:=Aside0.mk (Below.refl w.heap.size w)
 have H:((ring_Sub.f k l0_0 a0_1 l0_2 l1 l2).bind fun bt677 => (some bt677.1)) = some r:=h
 clear h
 replace H:=Option.bind_eq_some_iff.mp H
 obtain ⟨⟨t677,t680⟩,A40,H⟩:=H
 replace H:(some t677) = some r:=H
 have A4:=Aside0.mk A40
 clear A40
 obtain rfl:=Option.some.inj H
 go_enter Try.func36,Try.ntmps36
 go_wp2_with (first | ((with_reducible refine gate_dst (N:=3) rfl ?_);refine box_event ?hg (N:=3) ?hd (cs:=#[.slice A0_0 l0_0.length c0_0,.int .u64 a0_1,.slice A0_2 l0_2.length c0_2]) (t:=26) ?hr ?_;(case hd => rfl);(case hg => rfl);(case hr => first | (go_simp;done) | (go_simp;rfl));intro gb676 hg w5 hbox hb;have n0_:=Aside0.mk (below_step (vB HB.out) hb);have n1_:=Aside0.mk (hbox);have n2_:=Aside0.mk ((by rw [hg];exact (below_size (vB HB.out)):w.heap.size≤gb676));have n3_:=Aside0.mk ((by rw [hg];exact (below_size (vB HB.out)):w.heap.size≤gb676));clear HB;have HB:=n0_;have BK676:=n1_;have GW676:=n2_;have GE676:=n3_;clear n0_ n1_ n2_ n3_;clear hb hbox hg;have hcz6_0:w5.cell? ⟨gb676,0,none⟩ = some (.slice A0_0 l0_0.length c0_0):=(blk_cell BK676.out 0).trans rfl;have hcz6_1:w5.cell? ⟨gb676,1,none⟩ = some (.int .u64 a0_1):=(blk_cell BK676.out 1).trans rfl;have hcz6_2:w5.cell? ⟨gb676,2,none⟩ = some (.slice A0_2 l0_2.length c0_2):=(blk_cell BK676.out 2).trans rfl;have hfz6_0:=blk_frozen BK676.out 0;have hfz6_1:=blk_frozen BK676.out 1;have hfz6_2:=blk_frozen BK676.out 2) | ((with_reducible refine gate_callee (f:=25) rfl ?_);refine goesL_ (some 13) rfl rfl Try.func25 (by kernel_rfl) rfl #[.pointer none,.agg #[.slice A0_0 l0_0.length c0_0,.int .u64 a0_1,.slice A0_2 l0_2.length c0_2],.slice A1 l1.length c1,.slice A2 l2.length c2] rfl vA ?_;(with_reducible refine (ring_Sub.calls k  _ _ l0_0 a0_1 _ _ l0_2 _ _ l1 _ _ l2 t677 t680 _ ?side1 ?side2 ?side3 ?side4 ?side5 ?side6 ?side7 ?side8 A4.out).mono ?_);(case side1 => repeat (first | exact (Kd.C_below HR0_0.out HB.out) | (with_reducible refine Kd.C_alloc ?_ _) | (with_reducible refine Kd.C_drewN ?_ _) | (with_reducible refine Kd.C_drew ?_)));(case side2 => exact HC0_0.out);(case side3 => repeat (first | exact (Kd.C_below HR0_2.out HB.out) | (with_reducible refine Kd.C_alloc ?_ _) | (with_reducible refine Kd.C_drewN ?_ _) | (with_reducible refine Kd.C_drew ?_)));(case side4 => exact HC0_2.out);(case side5 => repeat (first | exact (Kd.C_below HR1.out HB.out) | (with_reducible refine Kd.C_alloc ?_ _) | (with_reducible refine Kd.C_drewN ?_ _) | (with_reducible refine Kd.C_drew ?_)));(case side6 => exact HC1.out);(case side7 => repeat (first | exact (Kd.C_below HR2.out HB.out) | (with_reducible refine Kd.C_alloc ?_ _) | (with_reducible refine Kd.C_drewN ?_ _) | (with_reducible refine Kd.C_drew ?_)));(case side8 => exact HC2.out);rintro e w7 ⟨v678,rfl,ho0,hb⟩;refine ⟨_,rfl,?_⟩;have n0_:=Aside0.mk (Kd.R_lower ho0 (below_size (vBg HB.out GE676.out)));have n1_:=Aside0.mk (blk_below (g:=gb676) (o:=.cells #[.slice A0_0 l0_0.length c0_0,.int .u64 a0_1,.slice A0_2 l0_2.length c0_2] 26 (0,0)) (vK BK676.out) hb);have n2_:=Aside0.mk (below_step (vBg HB.out GE676.out) hb);clear BK676;clear HB;have HO679:=n0_;have BK676:=n1_;have HB:=n2_;clear n0_ n1_ n2_;(try clear hb);(try clear hb2);(try clear hk);(try clear hi);(try clear ho0)))
 go_ret
 exact ⟨_,by first | rfl | (simp [errW_none,errW_some] <;> rfl) | (simp [*,errW_none,errW_some] <;> rfl),by (with_reducible repeat (first | apply Kd.R_alloc | apply Kd.R_drewN | apply Kd.R_drew));exact HO679.out,by repeat (first | (with_reducible first | exact HB.out | apply below_alloc | apply pw_below_drewN | apply below_drew1 | refine below_set ?_ GE676.out) | exact HB.out)⟩
end Go.Proofs.Ytonpekldcnankaa.X
end
