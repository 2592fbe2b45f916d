/- Texts of the walk and of the plain laws, laid together by a program: Sp6n, Sp6r. -/
import Derived.Test.YtalfniohakahlaaZD0
import Derived.Test.YtalfniohakahlaaZD1
import Derived.Test.YtalfniohakahlaaZD2
import Derived.Test.YtalfniohakahlaaZD5
import Derived.Test.YtalfniohakahlaaZD4
import Derived.Test.YtalfniohakahlaaZD6
import Derived.Test.YtalfniohakahlaaZD3
import Derived.Test.YtalfniohakahlaaZD13
import Derived.Test.YtalfniohakahlaaZD15
import Derived.Test.YtalfniohakahlaaZD14
import Derived.Test.YtalfniohakahlaaZD21
import Derived.Test.YtalfniohakahlaaZD23
import Derived.Test.YtalfniohakahlaaZD24
import Derived.Test.YtalfniohakahlaaZD25
import Derived.Test.YtalfniohakahlaaZD27
import Derived.Test.YtalfniohakahlaaZD29
import Derived.Test.YtalfniohakahlaaZD32
import Derived.Test.YtalfniohakahlaaZD33
import Derived.Test.YtalfniohakahlaaZD34
import Derived.Test.YtalfniohakahlaaZD35
import Derived.Test.YtalfniohakahlaaZD39
import Derived.Test.YtalfniohakahlaaZD40
section
namespace Go.Proofs.Ytalfniohakahlaa.X
open Go.RowKit Go.Proofs.YtalfniohakahlaaW.PrintWords Go.Proofs.YtalfniohakahlaaW.PrintLast Go.Proofs.Ytalfniohakahlaa.Ma
set_option linter.unusedVariables false
set_option linter.unusedSimpArgs false
theorem rd0 {l:List Int} (h:Wd l):rd l 0 = ((nW l % 18446744073709551616:Nat):Int):=by
  have:=rdA l 0
  rw [at0_first h] at this
  exact this
theorem mp_two {s:List Int} (h:Wd s) {n:Nat} (hl:s.length = n + 2) {v c:Nat} (hv:v < 18446744073709551616) (hc:c < 18446744073709551616):nW ((s.set n (v:Int)).set (n + 1) (c:Int)) = nW s % 18446744073709551616 ^ n + v * 18446744073709551616 ^ n + c * 18446744073709551616 ^ (n + 1):=by
  have h1:Wd (s.set n (v:Int)):=dg_set h ⟨by omega,by omega⟩ _
  have h2:=mp_set h1 (i:=n + 1) (by rw [List.length_set];omega) c
  have h3:=(mp_set_mod h (i:=n) (by omega) hv).1
  have h4:nW (s.set n (v:Int)) / 18446744073709551616 ^ (n + 1 + 1) = 0:=Nat.div_eq_of_lt (by have:=nW_lt h1;rw [List.length_set,hl] at this;exact this)
  rw [h2,h3,h4,Nat.zero_mul,Nat.add_zero]
theorem mp_third {s:List Int} (h:Wd s) {n:Nat} (hn:0 < n) (hl:s.length = n + 2) {v w:Nat} (hv:v < 18446744073709551616) (hw:w < 18446744073709551616) :
    nW ((s.set (n - 1) (v:Int)).set n (w:Int)) = nW s % 18446744073709551616 ^ (n - 1) + v * 18446744073709551616 ^ (n - 1) + w * 18446744073709551616 ^ n + nW s / 18446744073709551616 ^ (n + 1) * 18446744073709551616 ^ (n + 1):=by
  have h1:Wd (s.set (n - 1) (v:Int)):=dg_set h ⟨by omega,by omega⟩ _
  have h2:=mp_set h1 (i:=n) (by rw [List.length_set];omega) w
  obtain ⟨h3,h4⟩:=mp_set_mod h (i:=n - 1) (by omega) hv
  rw [show n - 1 + 1 = n by omega] at h3 h4
  have h5:nW (s.set (n - 1) (v:Int)) / 18446744073709551616 ^ (n + 1) = nW s / 18446744073709551616 ^ (n + 1):=by
    rw [Nat.pow_succ,← Nat.div_div_eq_div_mul,h4,Nat.div_div_eq_div_mul]
  rw [h2,h3,h5]
theorem mp_mid {m a b rr s1:List Int} {Kn:Nat} (hm:Wd m) (n i c1 T u o:Nat) (hn:m.length = n) (hn0:0 < n) (hn3:n≤300) (hKl:Kn < 18446744073709551616) (hl1:s1.length = n + 2) (hs1:Wd s1) (hc1:c1 < 18446744073709551616)
    (ho2:o = nW s1 / 18446744073709551616 ^ n % 18446744073709551616) (hT:nW s1 % 18446744073709551616 ^ n + (o + c1) % 18446744073709551616 * 18446744073709551616 ^ n + (o + c1) / 18446744073709551616 * 18446744073709551616 ^ (n + 1) = T)
    (hu:u = T % 18446744073709551616 * Kn % 18446744073709551616) (hex:(T + u * nW m) % 18446744073709551616 = 0) (r:List Int)
    (hK:∀ (y:List Int) (c:Nat),y.length = n + 2→Wd y→c < 18446744073709551616→nW y = T→18446744073709551616 * c = T % 18446744073709551616 + u * (nW m % 18446744073709551616)→Ev (fun k => mont_Product.l2 k a b (n:Int) y (c:Int) (u:Int) (1:Int) (n:Int) (i:Int) m (Kn:Int) rr) r) :
    Ev (fun k => mont_Product.l1 k a b (n:Int) s1 (i:Int) (c1:Int) (n:Int) (i:Int) (n:Int) (n:Int) m (Kn:Int) rr) r:=by
  have hol:o < 18446744073709551616:=by rw [ho2];exact Nat.mod_lt _ (by decide)
  have hul:u < 18446744073709551616:=by rw [hu];exact Nat.mod_lt _ (by decide)
  have hat:at0 s1 n = (o:Int):=by rw [at0_nW hs1,ho2]
  have hv:(o + c1) % 18446744073709551616 < 18446744073709551616:=Nat.mod_lt _ (by decide)
  have hc2:(o + c1) / 18446744073709551616 < 18446744073709551616:=by clear hT hex hu ho2;omega
  have hTy:=mp_two hs1 hl1 hv hc2
  rw [hT] at hTy
  have e1:wrap64 ((n:Int) + 1) = ((n + 1:Nat):Int):=by rw [w64 (by clear hT hex hu ho2 hTy;omega) (by clear hT hex hu ho2 hTy;omega)];clear hT hex hu ho2 hTy;omega
  have hadd:word_Add.f (o:Int) (c1:Int) 0 = some ((((o + c1) % 18446744073709551616:Nat):Int),(((o + c1) / 18446744073709551616:Nat):Int)):=by
    clear hT hex hu ho2 hTy
    rw [sp_word_Add (wd_iff.2 ⟨by omega,by omega⟩) (wd_iff.2 ⟨by omega,by omega⟩) (wd_iff.2 ⟨by omega,by omega⟩)]
    congr 2 <;> omega
  have hmul:∃ c,c < 18446744073709551616∧18446744073709551616 * c = T % 18446744073709551616 + u * (nW m % 18446744073709551616)∧word_Mul.f (u:Int) ((nW m % 18446744073709551616:Nat):Int) ((T % 18446744073709551616:Nat):Int) 0 = some ((c:Int),0):=by
    have ht0:=Nat.mod_lt T (show 0 < 18446744073709551616 by decide)
    have hm0:=Nat.mod_lt (nW m) (show 0 < 18446744073709551616 by decide)
    have hV0:(T % 18446744073709551616 + u * (nW m % 18446744073709551616)) % 18446744073709551616 = 0:=by
      rw [Nat.add_mod,Nat.mod_mod,Nat.mul_mod,Nat.mod_mod,← Nat.mul_mod,← Nat.add_mod]
      exact hex
    have hp:u * (nW m % 18446744073709551616)≤18446744073709551615 * 18446744073709551615:=Nat.mul_le_mul (by clear hT hex hu ho2 hTy hV0;omega) (by clear hT hex hu ho2 hTy hV0;omega)
    obtain ⟨m0,hm0e⟩:∃ m0,m0 = nW m % 18446744073709551616:=⟨_,rfl⟩
    obtain ⟨t0,ht0e⟩:∃ t0,t0 = T % 18446744073709551616:=⟨_,rfl⟩
    rw [← hm0e,← ht0e] at hV0 ⊢
    rw [← hm0e] at hp hm0
    rw [← ht0e] at ht0
    clear hT hex hu ho2 hTy hm0e ht0e
    rw [sp_word_Mul (wd_iff.2 ⟨by omega,by omega⟩) (wd_iff.2 ⟨by omega,by omega⟩) (wd_iff.2 ⟨by omega,by omega⟩) (wd_iff.2 ⟨by omega,by omega⟩)]
    obtain ⟨p,hpe⟩:∃ p,p = u * m0:=⟨_,rfl⟩
    rw [← hpe] at hV0 hp
    refine ⟨(t0 + p) / 18446744073709551616,by omega,by rw [← hpe];omega,?_⟩
    rw [← Int.natCast_mul,← hpe]
    congr 2 <;> omega
  obtain ⟨c,hcl,hce,hmul⟩:=hmul
  have e4:IntKind.u64.wrap (((T % 18446744073709551616:Nat):Int) * (Kn:Int)) = (u:Int):=by
    rw [wU,← Int.natCast_mul,hu]
    exact (Int.natCast_emod _ _).symm
  have hm0l:(0:Int) < (m.length:Int):=by clear hT hex hu ho2 hTy hce;omega
  have hK2:=fun y h1 h2 h3 => hK y c h1 h2 hcl h3 hce
  have hy:Wd ((s1.set n (((o + c1) % 18446744073709551616:Nat):Int)).set (n + 1) (((o + c1) / 18446744073709551616:Nat):Int)):=dg_set (dg_set hs1 ⟨by clear hT hex hu ho2 hTy hce;omega,by clear hT hex hu ho2 hTy hce;omega⟩ _) ⟨by clear hT hex hu ho2 hTy hce;omega,by clear hT hex hu ho2 hTy hce;omega⟩ _
  have hyl:((s1.set n (((o + c1) % 18446744073709551616:Nat):Int)).set (n + 1) (((o + c1) / 18446744073709551616:Nat):Int)).length = n + 2:=by rw [List.length_set,List.length_set];exact hl1
  have hfin:=hK2 _ hyl hy hTy
  have hr0:=rd0 hy
  rw [hTy] at hr0
  have hrm:=rd0 hm
  clear hT hex hu ho2 hK hK2 hce hTy
  refine Ev.step (fun k => mont_Product.l1.eq_2 ..) (ev_neg (by omega) (ev_pos (by omega) (ev_pos (by omega) ?_)))
  rw [rdA,hat,e1]
  refine ev_bind0 hadd (ev_pos (by omega) (ev_pos (by omega) ?_))
  simp only [Int.toNat_natCast]
  refine ev_bind0 rfl (ev_pos (by omega) (ev_pos hm0l ?_))
  rw [hr0,hrm,e4]
  exact ev_bind0 hmul hfin
theorem mp_last {m a b rr s2:List Int} {K:Int} (n i c2 u t q:Nat) (hn0:0 < n) (hn3:n≤300) (hi:i < n) (hl2:s2.length = n + 2) (hs2:Wd s2) (hc2:c2 < 18446744073709551616)
    (ht:t = nW s2 / 18446744073709551616 ^ n % 18446744073709551616) (hq:q = nW s2 / 18446744073709551616 ^ (n + 1)) (hw:q + (t + c2) / 18446744073709551616 < 2) (r:List Int)
    (hK:∀ s3:List Int,s3.length = n + 2→Wd s3→nW s3 = nW s2 % 18446744073709551616 ^ (n - 1) + (t + c2) % 18446744073709551616 * 18446744073709551616 ^ (n - 1) + (q + (t + c2) / 18446744073709551616) * 18446744073709551616 ^ n + q * 18446744073709551616 ^ (n + 1) →
      Ev (fun k => mont_Product.l0 k a b (n:Int) s3 (n:Int) ((i + 1:Nat):Int) m K rr) r) :
    Ev (fun k => mont_Product.l2 k a b (n:Int) s2 (c2:Int) (u:Int) (n:Int) (n:Int) (i:Int) m K rr) r:=by
  have htl:t < 18446744073709551616:=by rw [ht];exact Nat.mod_lt _ (by decide)
  have hvl:(t + c2) % 18446744073709551616 < 18446744073709551616:=Nat.mod_lt _ (by decide)
  have hql:q < 18446744073709551616:=by clear ht hq hK;omega
  have hwl:q + (t + c2) / 18446744073709551616 < 18446744073709551616:=by clear ht hq hK;omega
  have hat:at0 s2 n = (t:Int):=by rw [at0_nW hs2,ht]
  have hw1:Wd (s2.set (n - 1) (((t + c2) % 18446744073709551616:Nat):Int)):=dg_set hs2 ⟨by clear ht hq hK;omega,by clear ht hq hK;omega⟩ _
  have hat1:at0 (s2.set (n - 1) (((t + c2) % 18446744073709551616:Nat):Int)) (n + 1) = (q:Int):=by
    rw [at0_set (by clear ht hq hK;omega),if_neg (by clear ht hq hK;omega),at0_nW hs2,← hq,Nat.mod_eq_of_lt hql]
  have h3:=mp_third hs2 hn0 hl2 hvl hwl
  rw [← hq] at h3
  have hfin:=hK _ (by rw [List.length_set,List.length_set];exact hl2) (dg_set hw1 ⟨by clear ht hq hK h3;omega,by clear ht hq hK h3;omega⟩ _) h3
  clear ht hq hK h3
  have e1:wrap64 ((n:Int) + 1) = ((n + 1:Nat):Int):=by rw [w64 (by omega) (by omega)];omega
  have e1':wrap64 ((n:Int) - 1) = ((n - 1:Nat):Int):=by rw [w64 (by omega) (by omega)];omega
  have e8:IntKind.u64.wrap ((q:Int) + (((t + c2) / 18446744073709551616:Nat):Int)) = ((q + (t + c2) / 18446744073709551616:Nat):Int):=by rw [wU];omega
  have hadd:word_Add.f (t:Int) (c2:Int) 0 = some ((((t + c2) % 18446744073709551616:Nat):Int),(((t + c2) / 18446744073709551616:Nat):Int)):=by
    rw [sp_word_Add (wd_iff.2 ⟨by omega,by omega⟩) (wd_iff.2 ⟨by omega,by omega⟩) (wd_iff.2 ⟨by omega,by omega⟩)]
    congr 2 <;> omega
  refine Ev.step (fun k => mont_Product.l2.eq_2 ..) (ev_neg (by omega) (ev_pos (by omega) (ev_pos (by omega) ?_)))
  rw [rdA,hat,e1',e1]
  refine ev_bind0 hadd (ev_pos (by omega) (ev_pos (by omega) ?_))
  simp only [Int.toNat_natCast]
  refine ev_bind0 rfl (ev_pos (by omega) (ev_pos (by omega) ?_))
  rw [rdA,hat1,e8,w64_succ (i:=i) (by omega)]
  exact hfin
theorem mp_sumA {X S xb z c o n:Nat} (h:X + c * 18446744073709551616 ^ n = S + z * 18446744073709551616 ^ (n + 1) + xb) (hz:X / 18446744073709551616 ^ (n + 1) = z) (ho:o = X / 18446744073709551616 ^ n % 18446744073709551616) :
    X % 18446744073709551616 ^ n + (o + c) % 18446744073709551616 * 18446744073709551616 ^ n + (o + c) / 18446744073709551616 * 18446744073709551616 ^ (n + 1) = S + xb:=by
  have hX:=mp_split X n
  rw [hz,← ho] at hX
  have hdm:=Nat.div_add_mod (o + c) 18446744073709551616
  have k1:(o + c) % 18446744073709551616 * 18446744073709551616 ^ n + (o + c) / 18446744073709551616 * 18446744073709551616 ^ (n + 1) = o * 18446744073709551616 ^ n + c * 18446744073709551616 ^ n:=by
    rw [← Nat.add_mul]
    conv => rhs;rw [← hdm]
    rw [Nat.pow_succ',Nat.add_mul,Nat.add_comm]
    congr 1
    ac_rfl
  clear hdm ho hz
  obtain ⟨p1,e1⟩:∃ p,p = (o + c) % 18446744073709551616 * 18446744073709551616 ^ n:=⟨_,rfl⟩
  obtain ⟨p2,e2⟩:∃ p,p = (o + c) / 18446744073709551616 * 18446744073709551616 ^ (n + 1):=⟨_,rfl⟩
  obtain ⟨p3,e3⟩:∃ p,p = o * 18446744073709551616 ^ n:=⟨_,rfl⟩
  obtain ⟨p4,e4⟩:∃ p,p = c * 18446744073709551616 ^ n:=⟨_,rfl⟩
  obtain ⟨p5,e5⟩:∃ p,p = z * 18446744073709551616 ^ (n + 1):=⟨_,rfl⟩
  obtain ⟨p6,e6⟩:∃ p,p = X % 18446744073709551616 ^ n:=⟨_,rfl⟩
  rw [← e1,← e2,← e3,← e4] at k1
  rw [← e4,← e5] at h
  rw [← e3,← e5,← e6] at hX
  rw [← e1,← e2,← e6]
  clear e1 e2 e3 e4 e5 e6
  omega
theorem mp_sumB {Y T uM S' c t q n:Nat} (hn:0 < n) (hst:18446744073709551616 * S' = T + uM) (h2:18446744073709551616 * (Y % 18446744073709551616 ^ (n - 1) + c * 18446744073709551616 ^ (n - 1)) = T % 18446744073709551616 ^ n + uM)
    (ht:t = T / 18446744073709551616 ^ n % 18446744073709551616) (hq:q = T / 18446744073709551616 ^ (n + 1)) :
    S' = Y % 18446744073709551616 ^ (n - 1) + (t + c) % 18446744073709551616 * 18446744073709551616 ^ (n - 1) + (q + (t + c) / 18446744073709551616) * 18446744073709551616 ^ n:=by
  have hpn1:18446744073709551616 ^ n = 18446744073709551616 * 18446744073709551616 ^ (n - 1):=by rw [← Nat.pow_succ',show (n - 1).succ = n by omega]
  have hpn:18446744073709551616 ^ (n + 1) = 18446744073709551616 * 18446744073709551616 ^ n:=Nat.pow_succ'
  have hTs:=mp_split T n
  rw [← ht,← hq] at hTs
  have hdm:=Nat.div_add_mod (t + c) 18446744073709551616
  have k1:18446744073709551616 * ((t + c) % 18446744073709551616 * 18446744073709551616 ^ (n - 1)) + 18446744073709551616 * ((t + c) / 18446744073709551616 * 18446744073709551616 ^ n) = t * 18446744073709551616 ^ n + c * 18446744073709551616 ^ n:=by
    rw [← Nat.add_mul]
    conv => rhs;rw [← hdm]
    rw [Nat.add_mul,Nat.add_comm]
    congr 1
    · ac_rfl
    · rw [hpn1];ac_rfl
  have k2:18446744073709551616 * (c * 18446744073709551616 ^ (n - 1)) = c * 18446744073709551616 ^ n:=by rw [hpn1];ac_rfl
  have k3:18446744073709551616 * (q * 18446744073709551616 ^ n) = q * 18446744073709551616 ^ (n + 1):=by rw [hpn];ac_rfl
  rw [Nat.mul_add,k2] at h2
  rw [Nat.add_mul]
  clear hpn hpn1 hdm k2 ht hq
  obtain ⟨p1,e1⟩:∃ p,p = (t + c) % 18446744073709551616 * 18446744073709551616 ^ (n - 1):=⟨_,rfl⟩
  obtain ⟨p2,e2⟩:∃ p,p = (t + c) / 18446744073709551616 * 18446744073709551616 ^ n:=⟨_,rfl⟩
  obtain ⟨p3,e3⟩:∃ p,p = q * 18446744073709551616 ^ n:=⟨_,rfl⟩
  obtain ⟨p4,e4⟩:∃ p,p = c * 18446744073709551616 ^ n:=⟨_,rfl⟩
  obtain ⟨p5,e5⟩:∃ p,p = q * 18446744073709551616 ^ (n + 1):=⟨_,rfl⟩
  obtain ⟨p6,e6⟩:∃ p,p = t * 18446744073709551616 ^ n:=⟨_,rfl⟩
  obtain ⟨p7,e7⟩:∃ p,p = Y % 18446744073709551616 ^ (n - 1):=⟨_,rfl⟩
  obtain ⟨p8,e8⟩:∃ p,p = T % 18446744073709551616 ^ n:=⟨_,rfl⟩
  rw [← e1,← e2,← e6,← e4] at k1
  rw [← e3,← e5] at k3
  rw [← e7,← e4,← e8] at h2
  rw [← e8,← e6,← e5] at hTs
  rw [← e7,← e1,← e2,← e3]
  clear e1 e2 e3 e4 e5 e6 e7 e8
  omega
theorem mp_small {S M x y n q:Nat} (hS:S < 2 * M) (hM:M < 18446744073709551616 ^ n) (h:S = x + y + q * 18446744073709551616 ^ n):q < 2:=by
  rcases Nat.lt_or_ge q 2 with g | g
  · exact g
  · have:2 * 18446744073709551616 ^ n≤q * 18446744073709551616 ^ n:=Nat.mul_le_mul_right _ g
    omega
theorem mp_end {m a b rr:List Int} {K:Int} (hm:Wd m) (n:Nat) (hn:m.length = n) (hn3:n≤300) (s:List Int) (z S:Nat) (hl:s.length = n + 2) (hs:Wd s) (hS:S < 2 * nW m) (h:nW s = S + z * 18446744073709551616 ^ (n + 1)) :
    Ev (fun k => mont_Product.l0 k a b (n:Int) s (n:Int) (n:Int) m K rr) (wds n (S % nW m)):=by
  have hMl:nW m < 18446744073709551616 ^ n:=by rw [← hn];exact nW_lt hm
  have hpn:18446744073709551616 ^ (n + 1) = 18446744073709551616 * 18446744073709551616 ^ n:=Nat.pow_succ'
  have hpp:0 < 18446744073709551616 ^ n:=Nat.pow_pos (by decide)
  have hz:z * 18446744073709551616 ^ (n + 1) = z * 18446744073709551616 * 18446744073709551616 ^ n:=by rw [hpn,← Nat.mul_assoc]
  obtain ⟨less,low,f,r1,r2,r3,r4,r5,r6⟩:=dq_round hm (by rw [hn];exact hn3) hS
  rw [hn] at r1 r4 r5
  have htk:s.take n = wds n S:=by
    rw [show s = wds (n + 2) (nW s) from by rw [← hl];exact (dgs_num hs).symm,lq_take _ (Nat.le_add_right _ _)]
    show dgs _ _ _ = dgs _ _ _
    rw [← dgs_mod n (nW s),← dgs_mod n S,h,hz,Nat.add_mul_mod_self_right]
  have hlt:S / 18446744073709551616 ^ n < 18446744073709551616:=(Nat.div_lt_iff_lt_mul hpp).2 (by
    have h1:2 * nW m≤2 * 18446744073709551616 ^ n:=Nat.mul_le_mul_left _ (Nat.le_of_lt hMl)
    have h2:2 * 18446744073709551616 ^ n≤18446744073709551616 * 18446744073709551616 ^ n:=Nat.mul_le_mul_right _ (by decide)
    exact Nat.lt_of_lt_of_le hS (Nat.le_trans h1 h2))
  have hrd:at0 s n = ((S / 18446744073709551616 ^ n:Nat):Int):=by
    rw [at0_nW hs,h,hz,Nat.add_mul_div_right _ _ hpp,Nat.add_mul_mod_self_right,Nat.mod_eq_of_lt hlt]
  clear h hz hpn hpp hMl hlt hS
  refine Ev.step (fun k => mont_Product.l0.eq_2 ..) (ev_neg (by omega) (ev_pos (by omega) (ev_pos (by omega) ?_)))
  rw [Int.toNat_natCast,htk,rdA,hrd]
  refine ev_bind0 r1 (ev_pos (by omega) ?_)
  simp only []
  rw [r4]
  exact ev_bind0 r5 (ev_const rfl)
theorem mp_outer {m a b rr:List Int} {Kn:Nat} (hm:Wd m) (ha:Wd a) (hb:Wd b) (n:Nat) (hn:m.length = n) (hna:a.length = n) (hnb:b.length = n) (hn0:0 < n) (hn3:n≤300) (hKl:Kn < 18446744073709551616) (hK:(nW m * Kn + 1) % 18446744073709551616 = 0) (hM:0 < nW m) (hbM:nW b < nW m) :
    ∀ (d i:Nat) (s:List Int) (z:Nat),i + d = n→s.length = n + 2→Wd s→nW s = mpS (nW a) (nW b) (nW m) Kn i + z * 18446744073709551616 ^ (n + 1) →
      Ev (fun k => mont_Product.l0 k a b (n:Int) s (n:Int) (i:Int) m (Kn:Int) rr) (wds n (mpS (nW a) (nW b) (nW m) Kn n % nW m)):=by
  have hMl:=Aside0.mk (show nW m < 18446744073709551616 ^ n by rw [← hn];exact nW_lt hm)
  have HS:=Aside0.mk (fun i => mpS_lt (A:=nW a) (b:=nW b) hK hbM hM i)
  have HT:=Aside0.mk (fun i => mpS_step (A:=nW a) (b:=nW b) hK i)
  have HX:=Aside0.mk (fun X => mp_exact (X:=X) hK)
  clear hK hbM
  intro d
  induction d with
  | zero =>
    intro i s z hi hl hs h
    have h:=Aside0.mk h
    obtain rfl:i = n:=by omega
    exact mp_end hm i hn hn3 s z _ hl hs (HS.out i) h.out
  | succ d ih =>
    intro i s z hi hl hs h
    have ih:=Aside0.mk ih
    have h:=Aside0.mk h
    have hzz:=Aside0.mk (show nW s / 18446744073709551616 ^ (n + 1) = z from by
      have hS:=HS.out i
      have hp:2 * 18446744073709551616 ^ n≤18446744073709551616 ^ (n + 1):=by rw [Nat.pow_succ'];exact Nat.mul_le_mul_right _ (by decide)
      have h1:2 * nW m≤2 * 18446744073709551616 ^ n:=Nat.mul_le_mul_left _ (Nat.le_of_lt hMl.out)
      rw [h.out,Nat.add_mul_div_right _ _ (Nat.pow_pos (by decide)),Nat.div_eq_of_lt (Nat.lt_of_lt_of_le hS (Nat.le_trans h1 hp)),Nat.zero_add])
    refine Ev.step (fun k => mont_Product.l0.eq_2 ..) (ev_pos (by omega) (ev_bind0 rfl ?_))
    refine mp_inner ha hb n i hn hna hnb hn3 (by omega) (nW s) z _ ?_ n 0 0 s (by omega) hl hs (by decide) hzz.out (by simp [Nat.mod_one])
    intro s1 c1 hl1 hs1 hc1 hz1 h1
    rw [h.out] at h1
    have hA:=mp_sumA h1 hz1 rfl
    refine mp_mid hm n i c1 _ _ _ hn hn0 hn3 hKl hl1 hs1 hc1 rfl hA rfl (HX.out _) _ ?_
    have hst:=HT.out i
    intro y c hyl hy hc hTv hce
    have hd0:n - 1 + 1 = n:=by omega
    refine mp_second hm n i hn hn0 hn3 _ _ (Nat.mod_lt _ (by decide)) _ ?_ (n - 1) 0 c y (by omega) hyl hy hc (by rw [hTv]) (by rw [Nat.pow_zero,Nat.mod_one,Nat.zero_add,Nat.mul_one,Nat.zero_add,Nat.pow_one];exact hce)
    intro s2 c2 hl2 hs2 hc3 hd2 h2
    have hB:=mp_sumB hn0 hst h2 (t:=nW s2 / 18446744073709551616 ^ n % 18446744073709551616) (q:=nW s2 / 18446744073709551616 ^ (n + 1)) (by rw [hd2]) (by rw [Nat.pow_succ,← Nat.div_div_eq_div_mul,hd2,Nat.div_div_eq_div_mul])
    refine mp_last n i c2 _ _ _ hn0 hn3 (by omega) hl2 hs2 hc3 rfl rfl (mp_small (HS.out (i + 1)) hMl.out hB) _ ?_
    intro s3 hl3 hs3 h3
    rw [← hB] at h3
    exact ih.out (i + 1) s3 _ (by omega) hl3 hs3 h3
theorem sp_mont_Product {m a b rr:List Int} {K:Int} (hm:Wd m) (ha:Wd a) (hb:Wd b) (hK:IsK (nW m) K) (ho:nW m % 2 = 1) (hna:a.length = m.length) (hnb:b.length = m.length) (hn3:m.length≤300) (hbM:nW b < nW m) :
    ∃ r,r < nW m∧(r * 18446744073709551616 ^ m.length) % nW m = (nW a * nW b) % nW m∧Ev (fun k => mont_Product.f k m K rr a b) (wds m.length r):=by
  obtain ⟨Kn,rfl,hKl,hKe⟩:=isK_nat hK ho
  have hM:0 < nW m:=by omega
  have hn0:0 < m.length:=by
    rcases Nat.eq_zero_or_pos m.length with h | h
    · have:=nW_lt hm
      rw [h,Nat.pow_zero] at this
      omega
    · exact h
  refine ⟨mpS (nW a) (nW b) (nW m) Kn m.length % nW m,Nat.mod_lt _ hM,?_,?_⟩
  · obtain ⟨Q,hQ⟩:=mpS_rel (A:=nW a) (b:=nW b) hKe m.length
    rw [Nat.mul_mod,Nat.mod_mod,← Nat.mul_mod,hQ,Nat.add_mul_mod_self_right,← hna,Nat.mod_eq_of_lt (nW_lt ha)]
  · have e1:wrap64 ((m.length:Int) + 2) = ((m.length + 2:Nat):Int):=by rw [w64 (by omega) (by omega)];omega
    unfold mont_Product.f
    rw [e1]
    refine ev_pos (by omega) (ev_pos (by rw [Int.toNat_natCast];omega) ?_)
    rw [Int.toNat_natCast]
    have hz:List.replicate (m.length + 2) (0:Int) = wds (m.length + 2) 0:=(dgs_zero _).symm
    refine mp_outer hm ha hb m.length rfl hna hnb hn0 hn3 hKl hKe hM hbM m.length 0 _ 0 (by omega) List.length_replicate (by rw [hz];exact wds_Wd _ _) ?_
    rw [hz,nW_wds (Nat.pow_pos (by decide)),Nat.zero_mul]
    rfl
end Go.Proofs.Ytalfniohakahlaa.X
end
section
namespace Go.Proofs.Ytalfniohakahlaa.X
open Go.RowKit Go.Proofs.YtalfniohakahlaaW.PrintWords Go.Proofs.YtalfniohakahlaaW.PrintLast Go.Proofs.Ytalfniohakahlaa.Ma
set_option linter.unusedVariables false
set_option linter.unusedSimpArgs false
theorem sp_nat_at (l:List Int) (i:Nat):nat_at.f l (i:Int) = some (at0 l i):=by
  unfold nat_at.f
  rw [if_neg (by omega)]
  by_cases h:l.length≤i
  · rw [if_pos (by omega),at0_ge h]
  · rw [if_neg (by omega),if_pos (by omega),if_pos (by omega),rdA]
theorem Compare_loop {a b:List Int} (ha:Wd a) (hb:Wd b):∀ j:Nat,j≤1000000000→nW a / 18446744073709551616 ^ j = nW b / 18446744073709551616 ^ j→Ev (fun k => nat_Compare.l0 k a b ((j:Int) - 1)) (cmpI (nW a) (nW b)):=by
  intro j
  induction j with
  | zero =>
    intro _ h
    rw [Nat.pow_zero,Nat.div_one,Nat.div_one] at h
    refine Ev.step (fun k => nat_Compare.l0.eq_2 ..) (ev_neg (by omega) (ev_const ?_))
    unfold cmpI
    rw [if_neg (by omega),if_pos h]
  | succ j ih =>
    intro hj h
    have e0:((j + 1:Nat):Int) - 1 = (j:Int):=by omega
    have e1:wrap64 ((j:Int) - 1) = (j:Int) - 1:=by rw [w64 (by omega) (by omega)]
    rw [e0]
    refine Ev.step (fun k => nat_Compare.l0.eq_2 ..) (ev_pos (by omega) (ev_bind0 (sp_nat_at a j) (ev_bind0 (sp_nat_at b j) ?_)))
    rw [at0_nW ha,at0_nW hb,e1]
    have hX:=Nat.div_add_mod (nW a / 18446744073709551616 ^ j) 18446744073709551616
    have hY:=Nat.div_add_mod (nW b / 18446744073709551616 ^ j) 18446744073709551616
    rw [Nat.div_div_eq_div_mul,← Nat.pow_succ] at hX hY
    rw [h] at hX
    have hlt:∀ X Y:Nat,X / 18446744073709551616 ^ j < Y / 18446744073709551616 ^ j→X < Y:=fun X Y g => by
      rcases Nat.lt_or_ge X Y with g2 | g2
      · exact g2
      · have:=Nat.div_le_div_right (c:=18446744073709551616 ^ j) g2
        omega
    have l1:=hlt (nW a) (nW b)
    have l2:=hlt (nW b) (nW a)
    clear hlt
    obtain ⟨x,hx⟩:∃ x,x = nW a / 18446744073709551616 ^ j:=⟨_,rfl⟩
    obtain ⟨y,hy⟩:∃ y,y = nW b / 18446744073709551616 ^ j:=⟨_,rfl⟩
    rw [← hx] at hX l1 l2 ⊢
    rw [← hy] at hY l1 l2 ⊢
    rw [← hx,← hy] at ih
    obtain ⟨q,hq⟩:∃ q,q = nW b / 18446744073709551616 ^ (j + 1):=⟨_,rfl⟩
    rw [← hq] at hX hY
    clear hx hy hq h
    by_cases c1:x % 18446744073709551616 < y % 18446744073709551616
    · refine ev_pos (by omega) (ev_const ?_)
      unfold cmpI
      rw [if_pos (l1 (by omega))]
    · refine ev_neg (by omega) ?_
      by_cases c2:y % 18446744073709551616 < x % 18446744073709551616
      · refine ev_pos (by omega) (ev_const ?_)
        have:=l2 (by omega)
        unfold cmpI
        rw [if_neg (by omega),if_neg (by omega)]
      · exact ev_neg (by omega) (ih (by omega) (by omega))
theorem sp_nat_Compare {a b:List Int} (ha:Wd a) (hb:Wd b) (la:a.length≤1000000) (lb:b.length≤1000000):Ev (fun k => nat_Compare.f k a b) (cmpI (nW a) (nW b)):=by
  unfold nat_Compare.f
  have e:wrap64 (mx (a.length:Int) (b.length:Int) - 1) = ((max a.length b.length:Nat):Int) - 1:=by
    rw [mx_max,w64 (by omega) (by omega)]
    omega
  rw [e]
  refine Compare_loop ha hb _ (by omega) ?_
  rw [Nat.div_eq_of_lt (Nat.lt_of_lt_of_le (nW_lt ha) (Nat.pow_le_pow_right (by decide) (Nat.le_max_left _ _))),Nat.div_eq_of_lt (Nat.lt_of_lt_of_le (nW_lt hb) (Nat.pow_le_pow_right (by decide) (Nat.le_max_right _ _)))]
def memB (m r:List Int):Bool:=decide (r.length = m.length) && decide (nW r < nW m)
theorem members_loop {m rr:List Int} {K:Int} (hm:Wd m) (lm:m.length≤1000000) (ls:List (List Int)) (hls:∀ r ∈ ls,Wd r) (hn:ls.length≤1000000):∀ (d i:Nat),i + d = ls.length→Ev (fun k => mont_members.l0 k ls (ls.length:Int) (i:Int) m K rr) ((ls.drop i).all (memB m)):=by
  intro d
  induction d with
  | zero =>
    intro i hi
    refine Ev.step (fun k => mont_members.l0.eq_2 ..) (ev_neg (by omega) (ev_const ?_))
    rw [List.drop_eq_nil_of_le (by omega)]
    rfl
  | succ d ih =>
    intro i hi
    have hlt:i < ls.length:=by omega
    have hget:ls.getD i [] = ls[i]:=by simp [hlt]
    have hw:Wd ls[i]:=hls _ (List.getElem_mem hlt)
    refine Ev.step (fun k => mont_members.l0.eq_2 ..) (ev_pos (by omega) (ev_pos (by omega) (ev_pos (by omega) ?_)))
    rw [rdLI,hget,w64_succ (i:=i) (by omega),List.drop_eq_getElem_cons hlt,List.all_cons]
    unfold memB
    by_cases h1:ls[i].length = m.length
    · rw [decide_eq_true h1,Bool.true_and]
      refine ev_pos (by omega) (ev_bind (sp_nat_Compare hw hm (by omega) lm) ?_)
      by_cases h2:nW ls[i] < nW m
      · rw [decide_eq_true h2,Bool.true_and]
        refine ev_neg ?_ (ih (i + 1) (by omega))
        unfold cmpI
        rw [if_pos h2]
        decide
      · rw [decide_eq_false h2,Bool.false_and]
        refine ev_pos ?_ (ev_const rfl)
        unfold cmpI
        rw [if_neg h2]
        split <;> decide
    · rw [decide_eq_false h1,Bool.false_and,Bool.false_and]
      exact ev_neg (by omega) (ev_const rfl)
def IsMod (m:List Int) (K:Int) (rr:List Int):Prop:=Wd m∧wlen (nW m)≤130∧1 < nW m∧nW m % 2 = 1∧IsK (nW m) K∧m = wds (wlen (nW m)) (nW m)∧rr = wds (wlen (nW m)) (18446744073709551616 ^ (2 * wlen (nW m)) % nW m)
theorem IsMod.len {m rr:List Int} {K:Int} (h:IsMod m K rr):m.length = wlen (nW m):=by
  have:=h.2.2.2.2.2.1
  conv => lhs;rw [this]
  exact dgs_length _ _ _
theorem IsMod.of {M:Nat} {R:List Int × Int × List Int × Int} (h:SetR M R) (he:R.2.2.2 = 0):IsMod R.1 R.2.1 R.2.2.1∧nW R.1 = M:=by
  rcases h with ⟨_,rfl⟩ | ⟨_,_,rfl⟩ | ⟨_,_,_,rfl⟩ | ⟨h1,h2,h3,K,hK,rfl⟩
  · exact absurd he (by decide)
  · exact absurd he (by decide)
  · exact absurd he (by decide)
  · have e:nW (wds (wlen M) M) = M:=nW_wds (wlen_lt M)
    refine ⟨⟨wds_Wd _ _,?_⟩,e⟩
    simp only [e]
    exact ⟨h1,h2,h3,hK,trivial,trivial⟩
theorem IsMod.check {m rr:List Int} {K:Int} (h:IsMod m K rr):Ev (fun k => mont_Check.f k m K rr) true:=by
  obtain ⟨h1,h2,h3,h4,h5,h6,h7⟩:=h
  have hl:m.length≤1000:=by
    rw [h6,dgs_length]
    omega
  obtain ⟨R,g1,g2⟩:=sp_mont_Check (rr:=rr) (K:=K) h1 hl
  have e:R = (wds (wlen (nW m)) (nW m),K,wds (wlen (nW m)) (18446744073709551616 ^ (2 * wlen (nW m)) % nW m),0):=g1.uniq (.inr (.inr (.inr ⟨h2,h3,h4,K,h5,rfl⟩)))
  have ec:chkB R m K rr = true:=by
    rw [e]
    unfold chkB
    simp only
    rw [if_pos trivial,if_pos h6.symm,if_pos trivial,decide_eq_true h7.symm]
  rw [ec] at g2
  exact g2
theorem sp_mont_members {m rr:List Int} {K:Int} (h:IsMod m K rr) (ls:List (List Int)) (hls:∀ r ∈ ls,Wd r) (hn:ls.length≤1000000):Ev (fun k => mont_members.f k m K rr ls) (ls.all (memB m)):=by
  unfold mont_members.f
  refine ev_bind h.check (ev_pos rfl ?_)
  have:=members_loop (rr:=rr) (K:=K) h.1 (by rw [h.len];have:=h.2.1;omega) ls hls hn ls.length 0 (by omega)
  rw [List.drop_zero] at this
  exact this
theorem mp_inv {M r y j:Nat} (ho:M % 2 = 1) (h:(r * 2 ^ j) % M = (y * 2 ^ j) % M):r % M = y % M:=by
  have key:∀ x:Nat,(x * 2 ^ j % M * ((M + 1) / 2) ^ j) % M = x % M:=by
    intro x
    rw [Nat.mul_mod,Nat.mod_mod,← Nat.mul_mod,Nat.mul_assoc,← Nat.mul_pow,show 2 * ((M + 1) / 2) = M + 1 by omega,Nat.mul_mod,Nat.pow_mod,Nat.add_mod_left,← Nat.pow_mod,Nat.one_pow,← Nat.mul_mod,Nat.mul_one]
  rw [← key r,← key y,h]
theorem mp_invW {M r y n:Nat} (ho:M % 2 = 1) (h:(r * 18446744073709551616 ^ n) % M = (y * 18446744073709551616 ^ n) % M):r % M = y % M:=by
  have e:18446744073709551616 ^ n = 2 ^ (64 * n):=by rw [Nat.pow_mul]
  rw [e] at h
  exact mp_inv ho h
theorem sp_mont_Mul {m rr a b:List Int} {K:Int} (h:IsMod m K rr) (ha:Wd a) (hb:Wd b) (hma:memB m a = true) (hmb:memB m b = true) :
    ∃ r,r < nW m∧(r * 18446744073709551616 ^ m.length) % nW m = (nW a * nW b) % nW m∧Ev (fun k => mont_Mul.f k m K rr a b) (wds m.length r,0):=by
  have ga:a.length = m.length∧nW a < nW m:=by simpa [memB] using hma
  have gb:b.length = m.length∧nW b < nW m:=by simpa [memB] using hmb
  obtain ⟨r,r1,r2,r3⟩:=sp_mont_Product (rr:=rr) h.1 ha hb h.2.2.2.2.1 h.2.2.2.1 ga.1 gb.1 (by rw [h.len];have:=h.2.1;omega) gb.2
  refine ⟨r,r1,r2,?_⟩
  unfold mont_Mul.f
  have hmem:=sp_mont_members h [a,b] (by intro x hx;simp at hx;rcases hx with rfl | rfl <;> assumption) (by simp)
  rw [show [a,b].all (memB m) = true by simp [hma,hmb]] at hmem
  exact ev_bind hmem (ev_pos rfl (ev_bind r3 (ev_const rfl)))
theorem sp_mont_Mul_no {m rr a b:List Int} {K:Int} (h:IsMod m K rr) (ha:Wd a) (hb:Wd b) (hn:(memB m a && memB m b) = false):Ev (fun k => mont_Mul.f k m K rr a b) ([],1):=by
  unfold mont_Mul.f
  have hmem:=sp_mont_members h [a,b] (by intro x hx;simp at hx;rcases hx with rfl | rfl <;> assumption) (by simp)
  rw [show [a,b].all (memB m) = false by simpa using hn] at hmem
  exact ev_bind hmem (ev_neg (by decide) (ev_const rfl))
theorem IsMod.rr {m rr:List Int} {K:Int} (h:IsMod m K rr):Wd rr∧memB m rr = true∧nW rr = 18446744073709551616 ^ (2 * m.length) % nW m:=by
  have hl:=h.len
  have h3:=h.2.2.1
  have e:=h.2.2.2.2.2.2
  rw [← hl] at e
  have hlt:18446744073709551616 ^ (2 * m.length) % nW m < nW m:=Nat.mod_lt _ (by omega)
  have hn:nW rr = 18446744073709551616 ^ (2 * m.length) % nW m:=by
    rw [e]
    exact nW_wds (Nat.lt_trans hlt (nW_lt h.1))
  refine ⟨by rw [e];exact wds_Wd _ _,?_,hn⟩
  unfold memB
  rw [hn,decide_eq_true hlt,e,dgs_length,decide_eq_true rfl]
  rfl
end Go.Proofs.Ytalfniohakahlaa.X
end
