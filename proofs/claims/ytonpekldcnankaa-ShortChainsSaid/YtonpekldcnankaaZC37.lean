/- Texts of the walk and of the plain laws, laid together by a program: Sp6m, Sp6n, Mp. -/
import Derived.Test.YtonpekldcnankaaZC35
import Derived.Test.YtonpekldcnankaaZC36
section
namespace Go.Proofs.Ytonpekldcnankaa.X
open Go.RowKit Go.Proofs.YtonpekldcnankaaW.PrintWords Go.Proofs.YtonpekldcnankaaW.PrintLast Go.Proofs.Ytonpekldcnankaa.Ma
set_option linter.unusedVariables false
set_option linter.unusedSimpArgs false
theorem mp_split (X i:Nat):X = X % 18446744073709551616 ^ i + X / 18446744073709551616 ^ i % 18446744073709551616 * 18446744073709551616 ^ i + X / 18446744073709551616 ^ (i + 1) * 18446744073709551616 ^ (i + 1):=by
  have h1:=Nat.div_add_mod X (18446744073709551616 ^ i)
  have h2:=Nat.div_add_mod (X / 18446744073709551616 ^ i) 18446744073709551616
  rw [Nat.div_div_eq_div_mul,← Nat.pow_succ] at h2
  have e:X / 18446744073709551616 ^ (i + 1) * 18446744073709551616 ^ (i + 1) = 18446744073709551616 ^ i * (18446744073709551616 * (X / 18446744073709551616 ^ (i + 1))):=by rw [Nat.pow_succ];ac_rfl
  rw [e,Nat.mul_comm (X / 18446744073709551616 ^ i % 18446744073709551616),Nat.add_assoc,← Nat.mul_add,Nat.add_comm (X / 18446744073709551616 ^ i % 18446744073709551616),h2]
  omega
theorem mp_set {s:List Int} (h:Wd s) {i:Nat} (hi:i < s.length) (y:Nat):nW (s.set i (y:Int)) = nW s % 18446744073709551616 ^ i + y * 18446744073709551616 ^ i + nW s / 18446744073709551616 ^ (i + 1) * 18446744073709551616 ^ (i + 1):=by
  have h1:=num_set (B:=18446744073709551616) (y:Int) hi
  have h2:=mp_split (nW s) i
  rw [Int.toNat_natCast,at0_nW h,Int.toNat_natCast] at h1
  show num _ _ = _
  change _ = nW s + _ at h1
  generalize num 18446744073709551616 (s.set i (y:Int)) = A at *
  generalize nW s / 18446744073709551616 ^ i % 18446744073709551616 * 18446744073709551616 ^ i = p at *
  omega
theorem mp_set_mod {s:List Int} (h:Wd s) {i:Nat} (hi:i < s.length) {y:Nat} (hy:y < 18446744073709551616):nW (s.set i (y:Int)) % 18446744073709551616 ^ (i + 1) = nW s % 18446744073709551616 ^ i + y * 18446744073709551616 ^ i∧nW (s.set i (y:Int)) / 18446744073709551616 ^ (i + 1) = nW s / 18446744073709551616 ^ (i + 1):=by
  have hB:0 < 18446744073709551616 ^ i:=Nat.pow_pos (by decide)
  have hl:nW s % 18446744073709551616 ^ i + y * 18446744073709551616 ^ i < 18446744073709551616 ^ (i + 1):=by
    have h1:=Nat.mod_lt (nW s) hB
    have h2:(y + 1) * 18446744073709551616 ^ i≤18446744073709551616 * 18446744073709551616 ^ i:=Nat.mul_le_mul_right _ hy
    rw [Nat.add_mul] at h2
    rw [Nat.pow_succ,Nat.mul_comm _ 18446744073709551616]
    omega
  rw [mp_set h hi y,Nat.mul_comm (nW s / _)]
  exact ⟨by rw [Nat.add_mul_mod_self_left,Nat.mod_eq_of_lt hl],by rw [Nat.add_mul_div_left _ _ (Nat.pow_pos (by decide)),Nat.div_eq_of_lt hl,Nat.zero_add]⟩
theorem mp_next (X i:Nat):X % 18446744073709551616 ^ (i + 1) = X % 18446744073709551616 ^ i + X / 18446744073709551616 ^ i % 18446744073709551616 * 18446744073709551616 ^ i:=by
  rw [Nat.pow_succ,Nat.mod_mul,Nat.mul_comm (X / _ % _)]
theorem mp_inner {m a b rr:List Int} {K:Int} (ha:Wd a) (hb:Wd b) (n i:Nat) (hn:m.length = n) (hna:a.length = n) (hnb:b.length = n) (hn3:n≤300) (hi:i < n) (S0 z:Nat) (r:List Int)
    (hK:∀ (s:List Int) (c:Nat),s.length = n + 2→Wd s→c < 18446744073709551616→nW s / 18446744073709551616 ^ (n + 1) = z→nW s + c * 18446744073709551616 ^ n = S0 + (nW a / 18446744073709551616 ^ i % 18446744073709551616) * nW b→Ev (fun k => mont_Product.l1 k a b (n:Int) s (i:Int) (c:Int) (n:Int) (i:Int) (n:Int) (n:Int) m K rr) r) :
    ∀ (d j c:Nat) (s:List Int),j + d = n→s.length = n + 2→Wd s→c < 18446744073709551616→nW s / 18446744073709551616 ^ (n + 1) = z→nW s + c * 18446744073709551616 ^ j = S0 + (nW a / 18446744073709551616 ^ i % 18446744073709551616) * (nW b % 18446744073709551616 ^ j) →
      Ev (fun k => mont_Product.l1 k a b (n:Int) s (i:Int) (c:Int) (n:Int) (i:Int) (n:Int) (j:Int) m K rr) r:=by
  intro d
  induction d with
  | zero =>
    intro j c s hj hl hs hc hz h
    have:j = n:=by omega
    subst this
    refine hK s c hl hs hc hz ?_
    rw [h,← hnb,Nat.mod_eq_of_lt (nW_lt hb)]
  | succ d ih =>
    intro j c s hj hl hs hc hz h
    replace h:=Aside0.mk h
    have hz':=fun y (hy:y < 18446744073709551616) => (mp_set_mod hs (i:=j) (by omega) (y:=y) hy).2
    replace hz':=Aside0.mk hz'
    replace hz:=Aside0.mk hz
    have hlt:j < s.length:=by omega
    refine Ev.step (fun k => mont_Product.l1.eq_2 ..) (ev_pos (by omega) (ev_pos (by omega) (ev_pos (by omega) (ev_pos (by omega) (ev_pos (by omega) (ev_pos (by omega) ?_))))))
    rw [w64_succ (i:=j) (by omega),Int.toNat_natCast,rdA,rdA,rdA,at0_nW ha,at0_nW hb]
    have ho:=at0_dg (by decide) hs j
    have hx:=Nat.mod_lt (nW a / 18446744073709551616 ^ i) (show 0 < 18446744073709551616 by decide)
    have hy:=Nat.mod_lt (nW b / 18446744073709551616 ^ j) (show 0 < 18446744073709551616 by decide)
    have hst:=mul_step (B:=18446744073709551616) (x:=nW a / 18446744073709551616 ^ i % 18446744073709551616) (c:=c) (S:=S0) (i:=0) (j:=j) (out:=s) (b:=b) (by rw [Nat.zero_add,Nat.pow_zero,Nat.mul_one];exact h.out) (by rw [Nat.zero_add];exact hlt)
    clear h
    simp only [Nat.zero_add,Nat.pow_zero,Nat.mul_one] at hst
    replace hst:=Aside0.mk hst
    have eN:num 18446744073709551616 b = nW b:=rfl
    rw [eN] at hst
    generalize hX:nW a / 18446744073709551616 ^ i % 18446744073709551616 = x at *
    generalize hY:nW b / 18446744073709551616 ^ j % 18446744073709551616 = y at *
    obtain ⟨o,hO⟩:∃ o:Nat,at0 s j = (o:Int):=Int.eq_ofNat_of_zero_le ho.1
    rw [hO] at hst ho ⊢
    rw [Int.toNat_natCast] at hst
    rw [sp_word_Mul (wd_iff.2 ⟨by omega,by omega⟩) (wd_iff.2 ⟨by omega,by omega⟩) (wd_iff.2 ⟨by omega,by omega⟩) (wd_iff.2 ⟨by omega,by omega⟩)]
    have hxy:x * y≤18446744073709551615 * 18446744073709551615:=Nat.mul_le_mul (by omega) (by omega)
    have e2:((x:Int) * (y:Int) + (o:Int) + (c:Int)) = ((x * y + o + c:Nat):Int):=by rw [Int.natCast_add,Int.natCast_add,Int.natCast_mul]
    refine ev_bind0 rfl ?_
    simp only [e2]
    generalize hT:x * y + o + c = T at *
    have hTb:T < 18446744073709551616 * 18446744073709551616:=by generalize x * y = p at *;omega
    have e3:(T:Int) % 18446744073709551616 = ((T % 18446744073709551616:Nat):Int):=by omega
    have e4:(T:Int) / 18446744073709551616 = ((T / 18446744073709551616:Nat):Int):=by omega
    rw [e3,e4]
    exact ih (j + 1) (T / 18446744073709551616) (s.set j ((T % 18446744073709551616:Nat):Int)) (by omega) (by rw [List.length_set];exact hl) (dg_set hs ⟨by omega,by omega⟩ _) (by omega) (by
      rw [← hz.out,show n + 1 = (j + 1) + (n - j) by omega,Nat.pow_add,← Nat.div_div_eq_div_mul,← Nat.div_div_eq_div_mul,hz'.out _ (Nat.mod_lt _ (by decide))]) hst.out
theorem mp_second {m a b rr:List Int} {K:Int} (hm:Wd m) (n i:Nat) (hn:m.length = n) (hn1:0 < n) (hn3:n≤300) (T u:Nat) (hu:u < 18446744073709551616) (r:List Int)
    (hK:∀ (s:List Int) (c:Nat),s.length = n + 2→Wd s→c < 18446744073709551616→nW s / 18446744073709551616 ^ n = T / 18446744073709551616 ^ n→18446744073709551616 * (nW s % 18446744073709551616 ^ (n - 1) + c * 18446744073709551616 ^ (n - 1)) = T % 18446744073709551616 ^ n + u * nW m →
      Ev (fun k => mont_Product.l2 k a b (n:Int) s (c:Int) (u:Int) (n:Int) (n:Int) (i:Int) m K rr) r) :
    ∀ (d j c:Nat) (s:List Int),j + 1 + d = n→s.length = n + 2→Wd s→c < 18446744073709551616→nW s / 18446744073709551616 ^ (j + 1) = T / 18446744073709551616 ^ (j + 1)→18446744073709551616 * (nW s % 18446744073709551616 ^ j + c * 18446744073709551616 ^ j) = T % 18446744073709551616 ^ (j + 1) + u * (nW m % 18446744073709551616 ^ (j + 1)) →
      Ev (fun k => mont_Product.l2 k a b (n:Int) s (c:Int) (u:Int) ((j + 1:Nat):Int) (n:Int) (i:Int) m K rr) r:=by
  intro d
  induction d with
  | zero =>
    intro j c s hj hl hs hc h1 h2
    have e:j + 1 = n:=by omega
    rw [e] at h1 h2 ⊢
    refine hK s c hl hs hc h1 ?_
    rw [show n - 1 = j by omega,h2,← hn,Nat.mod_eq_of_lt (nW_lt hm)]
  | succ d ih =>
    intro j c s hj hl hs hc h1 h2
    replace h1:=Aside0.mk h1
    replace h2:=Aside0.mk h2
    have e1:wrap64 (((j + 1:Nat):Int) - 1) = (j:Int):=by rw [w64 (by omega) (by omega)];omega
    refine Ev.step (fun k => mont_Product.l2.eq_2 ..) (ev_pos (by omega) (ev_pos (by omega) (ev_pos (by omega) (ev_pos (by omega) ?_))))
    rw [e1,w64_succ (i:=j + 1) (by omega),Int.toNat_natCast,rdA,rdA,at0_nW hm,at0_nW hs]
    have hy:=Nat.mod_lt (nW m / 18446744073709551616 ^ (j + 1)) (show 0 < 18446744073709551616 by decide)
    have ho:=Nat.mod_lt (nW s / 18446744073709551616 ^ (j + 1)) (show 0 < 18446744073709551616 by decide)
    have hTj:nW s / 18446744073709551616 ^ (j + 1) % 18446744073709551616 = T / 18446744073709551616 ^ (j + 1) % 18446744073709551616:=by rw [h1.out]
    have hTn:=mp_next T (j + 1)
    have hMn:=mp_next (nW m) (j + 1)
    have hdd:nW s / 18446744073709551616 ^ (j + 1 + 1) = T / 18446744073709551616 ^ (j + 1 + 1):=by rw [Nat.pow_succ,← Nat.div_div_eq_div_mul,h1.out,Nat.div_div_eq_div_mul,← Nat.pow_succ]
    have hTn':=Aside0.mk hTn
    have hMn':=Aside0.mk hMn
    have hdd':=Aside0.mk hdd
    clear hTn hMn hdd
    generalize hY:nW m / 18446744073709551616 ^ (j + 1) % 18446744073709551616 = y at *
    generalize hO:nW s / 18446744073709551616 ^ (j + 1) % 18446744073709551616 = o at *
    rw [sp_word_Mul (wd_iff.2 ⟨by omega,by omega⟩) (wd_iff.2 ⟨by omega,by omega⟩) (wd_iff.2 ⟨by omega,by omega⟩) (wd_iff.2 ⟨by omega,by omega⟩)]
    have hxy:u * y≤18446744073709551615 * 18446744073709551615:=Nat.mul_le_mul (by omega) (by omega)
    have e2:((u:Int) * (y:Int) + (o:Int) + (c:Int)) = ((u * y + o + c:Nat):Int):=by rw [Int.natCast_add,Int.natCast_add,Int.natCast_mul]
    refine ev_bind0 rfl (ev_pos (by omega) (ev_pos (by omega) ?_))
    simp only [e2]
    obtain ⟨V,hV⟩:∃ V:Nat,V = u * y + o + c:=⟨_,rfl⟩
    rw [← hV]
    have hVb:V < 18446744073709551616 * 18446744073709551616:=by generalize u * y = p at *;omega
    have e3:(V:Int) % 18446744073709551616 = ((V % 18446744073709551616:Nat):Int):=by omega
    have e4:(V:Int) / 18446744073709551616 = ((V / 18446744073709551616:Nat):Int):=by omega
    rw [e3,e4]
    obtain ⟨g1,g2⟩:=mp_set_mod hs (i:=j) (by omega) (y:=V % 18446744073709551616) (Nat.mod_lt _ (by decide))
    have hV2:=Nat.div_add_mod V 18446744073709551616
    refine ih (j + 1) (V / 18446744073709551616) (s.set j ((V % 18446744073709551616:Nat):Int)) (by omega) (by rw [List.length_set];exact hl) (dg_set hs ⟨by omega,by omega⟩ _) (by omega) ?_ ?_
    · rw [Nat.pow_succ,← Nat.div_div_eq_div_mul,g2,Nat.div_div_eq_div_mul,← Nat.pow_succ]
      exact hdd'.out
    · rw [g1,hTn'.out,hMn'.out,← hTj,Nat.mul_add u]
      have h2':=h2.out
      have eB:18446744073709551616 ^ (j + 1) = 18446744073709551616 * 18446744073709551616 ^ j:=Nat.pow_succ'
      have eV:18446744073709551616 * (V / 18446744073709551616 * 18446744073709551616 ^ (j + 1)) + 18446744073709551616 * (V % 18446744073709551616 * 18446744073709551616 ^ j) = V * 18446744073709551616 ^ (j + 1):=by
        conv => rhs;rw [← hV2]
        rw [eB]
        generalize V / 18446744073709551616 = p
        generalize V % 18446744073709551616 = q
        generalize 18446744073709551616 ^ j = z
        rw [Nat.add_mul]
        congr 1 <;> ac_rfl
      have eS:V * 18446744073709551616 ^ (j + 1) = o * 18446744073709551616 ^ (j + 1) + u * (y * 18446744073709551616 ^ (j + 1)) + 18446744073709551616 * (c * 18446744073709551616 ^ j):=by
        rw [hV,Nat.add_mul,Nat.add_mul,Nat.mul_assoc u,Nat.add_comm (u * _)]
        congr 1
        rw [eB]
        ac_rfl
      rw [Nat.mul_add,Nat.mul_add] at *
      generalize V * 18446744073709551616 ^ (j + 1) = v1 at *
      generalize 18446744073709551616 * (V / 18446744073709551616 * 18446744073709551616 ^ (j + 1)) = v2 at *
      generalize 18446744073709551616 * (V % 18446744073709551616 * 18446744073709551616 ^ j) = v3 at *
      generalize o * 18446744073709551616 ^ (j + 1) = v4 at *
      generalize u * (y * 18446744073709551616 ^ (j + 1)) = v5 at *
      generalize 18446744073709551616 * (c * 18446744073709551616 ^ j) = v6 at *
      generalize 18446744073709551616 * (nW s % 18446744073709551616 ^ j) = v7 at *
      omega
def mpS (A b M Kn:Nat):Nat→Nat
  | 0 => 0
  | i + 1 => (mpS A b M Kn i + (A / 18446744073709551616 ^ i % 18446744073709551616) * b + ((mpS A b M Kn i + (A / 18446744073709551616 ^ i % 18446744073709551616) * b) % 18446744073709551616 * Kn % 18446744073709551616) * M) / 18446744073709551616
theorem mp_exact {X M Kn:Nat} (hK:(M * Kn + 1) % 18446744073709551616 = 0):(X + X % 18446744073709551616 * Kn % 18446744073709551616 * M) % 18446744073709551616 = 0:=by
  have e:(X + X % 18446744073709551616 * Kn % 18446744073709551616 * M) % 18446744073709551616 = (X * (M * Kn + 1)) % 18446744073709551616:=by
    rw [Nat.mul_add,Nat.mul_one,Nat.add_comm (X * (M * Kn)),Nat.add_mod,Nat.mul_mod (X % 18446744073709551616 * Kn % 18446744073709551616),Nat.mod_mod,← Nat.mul_mod,Nat.mul_assoc,Nat.mul_comm Kn M,Nat.mul_mod (X % _),Nat.mod_mod,← Nat.mul_mod,← Nat.add_mod]
  rw [e,Nat.mul_mod,hK,Nat.mul_zero,Nat.zero_mod]
theorem mpS_step {A b M Kn:Nat} (hK:(M * Kn + 1) % 18446744073709551616 = 0) (i:Nat):18446744073709551616 * mpS A b M Kn (i + 1) = mpS A b M Kn i + (A / 18446744073709551616 ^ i % 18446744073709551616) * b + ((mpS A b M Kn i + (A / 18446744073709551616 ^ i % 18446744073709551616) * b) % 18446744073709551616 * Kn % 18446744073709551616) * M :=
  Nat.mul_div_cancel' (Nat.dvd_of_mod_eq_zero (mp_exact hK))
theorem mpS_lt {A b M Kn:Nat} (hK:(M * Kn + 1) % 18446744073709551616 = 0) (hb:b < M) (hM:0 < M):∀ i,mpS A b M Kn i < 2 * M
  | 0 => by show 0 < _;omega
  | i + 1 => by
    have ih:=mpS_lt (A:=A) hK hb hM i
    have h:=mpS_step (A:=A) (b:=b) hK i
    have h1:(A / 18446744073709551616 ^ i % 18446744073709551616) * b≤18446744073709551615 * M:=Nat.mul_le_mul (by have:=Nat.mod_lt (A / 18446744073709551616 ^ i) (show 0 < 18446744073709551616 by decide);omega) (by omega)
    have h2:((mpS A b M Kn i + (A / 18446744073709551616 ^ i % 18446744073709551616) * b) % 18446744073709551616 * Kn % 18446744073709551616) * M≤18446744073709551615 * M:=Nat.mul_le_mul_right _ (by have:=Nat.mod_lt ((mpS A b M Kn i + (A / 18446744073709551616 ^ i % 18446744073709551616) * b) % 18446744073709551616 * Kn) (show 0 < 18446744073709551616 by decide);omega)
    generalize (A / 18446744073709551616 ^ i % 18446744073709551616) * b = p at *
    generalize ((mpS A b M Kn i + p) % 18446744073709551616 * Kn % 18446744073709551616) * M = q at *
    omega
theorem mpS_rel {A b M Kn:Nat} (hK:(M * Kn + 1) % 18446744073709551616 = 0):∀ i,∃ Q,mpS A b M Kn i * 18446744073709551616 ^ i = (A % 18446744073709551616 ^ i) * b + Q * M
  | 0 => ⟨0,by simp [mpS,Nat.mod_one]⟩
  | i + 1 => by
    obtain ⟨Q,ih⟩:=mpS_rel (A:=A) (b:=b) hK i
    have h:=mpS_step (A:=A) (b:=b) hK i
    refine ⟨Q + ((mpS A b M Kn i + (A / 18446744073709551616 ^ i % 18446744073709551616) * b) % 18446744073709551616 * Kn % 18446744073709551616) * 18446744073709551616 ^ i,?_⟩
    rw [Nat.pow_succ',← Nat.mul_assoc,Nat.mul_comm (mpS A b M Kn (i + 1)),h,← Nat.pow_succ',mp_next A i]
    generalize (mpS A b M Kn i + (A / 18446744073709551616 ^ i % 18446744073709551616) * b) % 18446744073709551616 * Kn % 18446744073709551616 = u at *
    rw [Nat.add_mul,Nat.add_mul,ih,Nat.add_mul,Nat.add_mul]
    generalize A / 18446744073709551616 ^ i % 18446744073709551616 = x
    generalize 18446744073709551616 ^ i = z
    have e1:x * b * z = x * z * b:=by ac_rfl
    have e2:u * M * z = u * z * M:=by ac_rfl
    rw [e1,e2]
    omega
theorem isK_nat {M:Nat} {K:Int} (h:IsK M K) (ho:M % 2 = 1):∃ Kn:Nat,K = (Kn:Int)∧Kn < 18446744073709551616∧(M * Kn + 1) % 18446744073709551616 = 0:=by
  obtain ⟨x,⟨hx1,hx2,_⟩,rfl⟩:=h
  obtain ⟨q,hq⟩:=hx2 (by omega)
  have hw:IntKind.u64.wrap (-x) = -x % 18446744073709551616:=wU _
  have hn:0≤-x % 18446744073709551616:=Int.emod_nonneg _ (by decide)
  have hl:-x % 18446744073709551616 < 18446744073709551616:=Int.emod_lt_of_pos _ (by decide)
  obtain ⟨Kn,hKn⟩:=Int.eq_ofNat_of_zero_le hn
  refine ⟨Kn,by rw [hw,hKn],by omega,?_⟩
  have hd:=Int.emod_add_mul_ediv (-x) 18446744073709551616
  rw [hKn] at hd
  have e:((M * Kn + 1:Nat):Int) = 18446744073709551616 * (((M / 18446744073709551616:Nat):Int) * (Kn:Int) - ((M % 18446744073709551616:Nat):Int) * (-x / 18446744073709551616) - q):=by
    have hM:(M:Int) = 18446744073709551616 * ((M / 18446744073709551616:Nat):Int) + ((M % 18446744073709551616:Nat):Int):=by omega
    have hKe:(Kn:Int) = -x - 18446744073709551616 * (-x / 18446744073709551616):=by omega
    rw [Int.natCast_add,Int.natCast_mul,hM,Int.add_mul,Int.mul_sub,Int.mul_sub,Int.mul_assoc]
    have e1:((M % 18446744073709551616:Nat):Int) * (Kn:Int) = -(((M % 18446744073709551616:Nat):Int) * x) - 18446744073709551616 * (((M % 18446744073709551616:Nat):Int) * (-x / 18446744073709551616)):=by
      rw [hKe,Int.mul_sub,Int.mul_neg]
      congr 1
      exact Int.mul_left_comm _ _ _
    rw [e1]
    have:((1:Nat):Int) = 1:=rfl
    omega
  have:((M * Kn + 1:Nat):Int) % 18446744073709551616 = 0:=by rw [e];exact Int.mul_emod_right _ _
  omega
end Go.Proofs.Ytonpekldcnankaa.X
end
section
namespace Go.Proofs.Ytonpekldcnankaa.X
open Go.RowKit Go.Proofs.YtonpekldcnankaaW.PrintWords Go.Proofs.YtonpekldcnankaaW.PrintLast Go.Proofs.Ytonpekldcnankaa.Ma
set_option linter.unusedVariables false
set_option linter.unusedSimpArgs false
theorem rd0 {l:List Int} (h:Wd l):rd l 0 = ((nW l % 18446744073709551616:Nat):Int):=by
  have:=rdA l 0
  rw [at0_first h] at this
  exact this
theorem mp_two {s:List Int} (h:Wd s) {n:Nat} (hl:s.length = n + 2) {v c:Nat} (hv:v < 18446744073709551616) (hc:c < 18446744073709551616):nW ((s.set n (v:Int)).set (n + 1) (c:Int)) = nW s % 18446744073709551616 ^ n + v * 18446744073709551616 ^ n + c * 18446744073709551616 ^ (n + 1):=by
  have h1:Wd (s.set n (v:Int)):=dg_set h ⟨by omega,by omega⟩ _
  have h2:=mp_set h1 (i:=n + 1) (by rw [List.length_set];omega) c
  have h3:=(mp_set_mod h (i:=n) (by omega) hv).1
  have h4:nW (s.set n (v:Int)) / 18446744073709551616 ^ (n + 1 + 1) = 0:=Nat.div_eq_of_lt (by have:=nW_lt h1;rw [List.length_set,hl] at this;exact this)
  rw [h2,h3,h4,Nat.zero_mul,Nat.add_zero]
theorem mp_third {s:List Int} (h:Wd s) {n:Nat} (hn:0 < n) (hl:s.length = n + 2) {v w:Nat} (hv:v < 18446744073709551616) (hw:w < 18446744073709551616) :
    nW ((s.set (n - 1) (v:Int)).set n (w:Int)) = nW s % 18446744073709551616 ^ (n - 1) + v * 18446744073709551616 ^ (n - 1) + w * 18446744073709551616 ^ n + nW s / 18446744073709551616 ^ (n + 1) * 18446744073709551616 ^ (n + 1):=by
  have h1:Wd (s.set (n - 1) (v:Int)):=dg_set h ⟨by omega,by omega⟩ _
  have h2:=mp_set h1 (i:=n) (by rw [List.length_set];omega) w
  obtain ⟨h3,h4⟩:=mp_set_mod h (i:=n - 1) (by omega) hv
  rw [show n - 1 + 1 = n by omega] at h3 h4
  have h5:nW (s.set (n - 1) (v:Int)) / 18446744073709551616 ^ (n + 1) = nW s / 18446744073709551616 ^ (n + 1):=by
    rw [Nat.pow_succ,← Nat.div_div_eq_div_mul,h4,Nat.div_div_eq_div_mul]
  rw [h2,h3,h5]
theorem mp_mid {m a b rr s1:List Int} {Kn:Nat} (hm:Wd m) (n i c1 T u o:Nat) (hn:m.length = n) (hn0:0 < n) (hn3:n≤300) (hKl:Kn < 18446744073709551616) (hl1:s1.length = n + 2) (hs1:Wd s1) (hc1:c1 < 18446744073709551616)
    (ho2:o = nW s1 / 18446744073709551616 ^ n % 18446744073709551616) (hT:nW s1 % 18446744073709551616 ^ n + (o + c1) % 18446744073709551616 * 18446744073709551616 ^ n + (o + c1) / 18446744073709551616 * 18446744073709551616 ^ (n + 1) = T)
    (hu:u = T % 18446744073709551616 * Kn % 18446744073709551616) (hex:(T + u * nW m) % 18446744073709551616 = 0) (r:List Int)
    (hK:∀ (y:List Int) (c:Nat),y.length = n + 2→Wd y→c < 18446744073709551616→nW y = T→18446744073709551616 * c = T % 18446744073709551616 + u * (nW m % 18446744073709551616)→Ev (fun k => mont_Product.l2 k a b (n:Int) y (c:Int) (u:Int) (1:Int) (n:Int) (i:Int) m (Kn:Int) rr) r) :
    Ev (fun k => mont_Product.l1 k a b (n:Int) s1 (i:Int) (c1:Int) (n:Int) (i:Int) (n:Int) (n:Int) m (Kn:Int) rr) r:=by
  have hol:o < 18446744073709551616:=by rw [ho2];exact Nat.mod_lt _ (by decide)
  have hul:u < 18446744073709551616:=by rw [hu];exact Nat.mod_lt _ (by decide)
  have hat:at0 s1 n = (o:Int):=by rw [at0_nW hs1,ho2]
  have hv:(o + c1) % 18446744073709551616 < 18446744073709551616:=Nat.mod_lt _ (by decide)
  have hc2:(o + c1) / 18446744073709551616 < 18446744073709551616:=by clear hT hex hu ho2;omega
  have hTy:=mp_two hs1 hl1 hv hc2
  rw [hT] at hTy
  have e1:wrap64 ((n:Int) + 1) = ((n + 1:Nat):Int):=by rw [w64 (by clear hT hex hu ho2 hTy;omega) (by clear hT hex hu ho2 hTy;omega)];clear hT hex hu ho2 hTy;omega
  have hadd:word_Add.f (o:Int) (c1:Int) 0 = some ((((o + c1) % 18446744073709551616:Nat):Int),(((o + c1) / 18446744073709551616:Nat):Int)):=by
    clear hT hex hu ho2 hTy
    rw [sp_word_Add (wd_iff.2 ⟨by omega,by omega⟩) (wd_iff.2 ⟨by omega,by omega⟩) (wd_iff.2 ⟨by omega,by omega⟩)]
    congr 2 <;> omega
  have hmul:∃ c,c < 18446744073709551616∧18446744073709551616 * c = T % 18446744073709551616 + u * (nW m % 18446744073709551616)∧word_Mul.f (u:Int) ((nW m % 18446744073709551616:Nat):Int) ((T % 18446744073709551616:Nat):Int) 0 = some ((c:Int),0):=by
    have ht0:=Nat.mod_lt T (show 0 < 18446744073709551616 by decide)
    have hm0:=Nat.mod_lt (nW m) (show 0 < 18446744073709551616 by decide)
    have hV0:(T % 18446744073709551616 + u * (nW m % 18446744073709551616)) % 18446744073709551616 = 0:=by
      rw [Nat.add_mod,Nat.mod_mod,Nat.mul_mod,Nat.mod_mod,← Nat.mul_mod,← Nat.add_mod]
      exact hex
    have hp:u * (nW m % 18446744073709551616)≤18446744073709551615 * 18446744073709551615:=Nat.mul_le_mul (by clear hT hex hu ho2 hTy hV0;omega) (by clear hT hex hu ho2 hTy hV0;omega)
    obtain ⟨m0,hm0e⟩:∃ m0,m0 = nW m % 18446744073709551616:=⟨_,rfl⟩
    obtain ⟨t0,ht0e⟩:∃ t0,t0 = T % 18446744073709551616:=⟨_,rfl⟩
    rw [← hm0e,← ht0e] at hV0 ⊢
    rw [← hm0e] at hp hm0
    rw [← ht0e] at ht0
    clear hT hex hu ho2 hTy hm0e ht0e
    rw [sp_word_Mul (wd_iff.2 ⟨by omega,by omega⟩) (wd_iff.2 ⟨by omega,by omega⟩) (wd_iff.2 ⟨by omega,by omega⟩) (wd_iff.2 ⟨by omega,by omega⟩)]
    obtain ⟨p,hpe⟩:∃ p,p = u * m0:=⟨_,rfl⟩
    rw [← hpe] at hV0 hp
    refine ⟨(t0 + p) / 18446744073709551616,by omega,by rw [← hpe];omega,?_⟩
    rw [← Int.natCast_mul,← hpe]
    congr 2 <;> omega
  obtain ⟨c,hcl,hce,hmul⟩:=hmul
  have e4:IntKind.u64.wrap (((T % 18446744073709551616:Nat):Int) * (Kn:Int)) = (u:Int):=by
    rw [wU,← Int.natCast_mul,hu]
    exact (Int.natCast_emod _ _).symm
  have hm0l:(0:Int) < (m.length:Int):=by clear hT hex hu ho2 hTy hce;omega
  have hK2:=fun y h1 h2 h3 => hK y c h1 h2 hcl h3 hce
  have hy:Wd ((s1.set n (((o + c1) % 18446744073709551616:Nat):Int)).set (n + 1) (((o + c1) / 18446744073709551616:Nat):Int)):=dg_set (dg_set hs1 ⟨by clear hT hex hu ho2 hTy hce;omega,by clear hT hex hu ho2 hTy hce;omega⟩ _) ⟨by clear hT hex hu ho2 hTy hce;omega,by clear hT hex hu ho2 hTy hce;omega⟩ _
  have hyl:((s1.set n (((o + c1) % 18446744073709551616:Nat):Int)).set (n + 1) (((o + c1) / 18446744073709551616:Nat):Int)).length = n + 2:=by rw [List.length_set,List.length_set];exact hl1
  have hfin:=hK2 _ hyl hy hTy
  have hr0:=rd0 hy
  rw [hTy] at hr0
  have hrm:=rd0 hm
  clear hT hex hu ho2 hK hK2 hce hTy
  refine Ev.step (fun k => mont_Product.l1.eq_2 ..) (ev_neg (by omega) (ev_pos (by omega) (ev_pos (by omega) ?_)))
  rw [rdA,hat,e1]
  refine ev_bind0 hadd (ev_pos (by omega) (ev_pos (by omega) ?_))
  simp only [Int.toNat_natCast]
  refine ev_bind0 rfl (ev_pos (by omega) (ev_pos hm0l ?_))
  rw [hr0,hrm,e4]
  exact ev_bind0 hmul hfin
theorem mp_last {m a b rr s2:List Int} {K:Int} (n i c2 u t q:Nat) (hn0:0 < n) (hn3:n≤300) (hi:i < n) (hl2:s2.length = n + 2) (hs2:Wd s2) (hc2:c2 < 18446744073709551616)
    (ht:t = nW s2 / 18446744073709551616 ^ n % 18446744073709551616) (hq:q = nW s2 / 18446744073709551616 ^ (n + 1)) (hw:q + (t + c2) / 18446744073709551616 < 2) (r:List Int)
    (hK:∀ s3:List Int,s3.length = n + 2→Wd s3→nW s3 = nW s2 % 18446744073709551616 ^ (n - 1) + (t + c2) % 18446744073709551616 * 18446744073709551616 ^ (n - 1) + (q + (t + c2) / 18446744073709551616) * 18446744073709551616 ^ n + q * 18446744073709551616 ^ (n + 1) →
      Ev (fun k => mont_Product.l0 k a b (n:Int) s3 (n:Int) ((i + 1:Nat):Int) m K rr) r) :
    Ev (fun k => mont_Product.l2 k a b (n:Int) s2 (c2:Int) (u:Int) (n:Int) (n:Int) (i:Int) m K rr) r:=by
  have htl:t < 18446744073709551616:=by rw [ht];exact Nat.mod_lt _ (by decide)
  have hvl:(t + c2) % 18446744073709551616 < 18446744073709551616:=Nat.mod_lt _ (by decide)
  have hql:q < 18446744073709551616:=by clear ht hq hK;omega
  have hwl:q + (t + c2) / 18446744073709551616 < 18446744073709551616:=by clear ht hq hK;omega
  have hat:at0 s2 n = (t:Int):=by rw [at0_nW hs2,ht]
  have hw1:Wd (s2.set (n - 1) (((t + c2) % 18446744073709551616:Nat):Int)):=dg_set hs2 ⟨by clear ht hq hK;omega,by clear ht hq hK;omega⟩ _
  have hat1:at0 (s2.set (n - 1) (((t + c2) % 18446744073709551616:Nat):Int)) (n + 1) = (q:Int):=by
    rw [at0_set (by clear ht hq hK;omega),if_neg (by clear ht hq hK;omega),at0_nW hs2,← hq,Nat.mod_eq_of_lt hql]
  have h3:=mp_third hs2 hn0 hl2 hvl hwl
  rw [← hq] at h3
  have hfin:=hK _ (by rw [List.length_set,List.length_set];exact hl2) (dg_set hw1 ⟨by clear ht hq hK h3;omega,by clear ht hq hK h3;omega⟩ _) h3
  clear ht hq hK h3
  have e1:wrap64 ((n:Int) + 1) = ((n + 1:Nat):Int):=by rw [w64 (by omega) (by omega)];omega
  have e1':wrap64 ((n:Int) - 1) = ((n - 1:Nat):Int):=by rw [w64 (by omega) (by omega)];omega
  have e8:IntKind.u64.wrap ((q:Int) + (((t + c2) / 18446744073709551616:Nat):Int)) = ((q + (t + c2) / 18446744073709551616:Nat):Int):=by rw [wU];omega
  have hadd:word_Add.f (t:Int) (c2:Int) 0 = some ((((t + c2) % 18446744073709551616:Nat):Int),(((t + c2) / 18446744073709551616:Nat):Int)):=by
    rw [sp_word_Add (wd_iff.2 ⟨by omega,by omega⟩) (wd_iff.2 ⟨by omega,by omega⟩) (wd_iff.2 ⟨by omega,by omega⟩)]
    congr 2 <;> omega
  refine Ev.step (fun k => mont_Product.l2.eq_2 ..) (ev_neg (by omega) (ev_pos (by omega) (ev_pos (by omega) ?_)))
  rw [rdA,hat,e1',e1]
  refine ev_bind0 hadd (ev_pos (by omega) (ev_pos (by omega) ?_))
  simp only [Int.toNat_natCast]
  refine ev_bind0 rfl (ev_pos (by omega) (ev_pos (by omega) ?_))
  rw [rdA,hat1,e8,w64_succ (i:=i) (by omega)]
  exact hfin
theorem mp_sumA {X S xb z c o n:Nat} (h:X + c * 18446744073709551616 ^ n = S + z * 18446744073709551616 ^ (n + 1) + xb) (hz:X / 18446744073709551616 ^ (n + 1) = z) (ho:o = X / 18446744073709551616 ^ n % 18446744073709551616) :
    X % 18446744073709551616 ^ n + (o + c) % 18446744073709551616 * 18446744073709551616 ^ n + (o + c) / 18446744073709551616 * 18446744073709551616 ^ (n + 1) = S + xb:=by
  have hX:=mp_split X n
  rw [hz,← ho] at hX
  have hdm:=Nat.div_add_mod (o + c) 18446744073709551616
  have k1:(o + c) % 18446744073709551616 * 18446744073709551616 ^ n + (o + c) / 18446744073709551616 * 18446744073709551616 ^ (n + 1) = o * 18446744073709551616 ^ n + c * 18446744073709551616 ^ n:=by
    rw [← Nat.add_mul]
    conv => rhs;rw [← hdm]
    rw [Nat.pow_succ',Nat.add_mul,Nat.add_comm]
    congr 1
    ac_rfl
  clear hdm ho hz
  obtain ⟨p1,e1⟩:∃ p,p = (o + c) % 18446744073709551616 * 18446744073709551616 ^ n:=⟨_,rfl⟩
  obtain ⟨p2,e2⟩:∃ p,p = (o + c) / 18446744073709551616 * 18446744073709551616 ^ (n + 1):=⟨_,rfl⟩
  obtain ⟨p3,e3⟩:∃ p,p = o * 18446744073709551616 ^ n:=⟨_,rfl⟩
  obtain ⟨p4,e4⟩:∃ p,p = c * 18446744073709551616 ^ n:=⟨_,rfl⟩
  obtain ⟨p5,e5⟩:∃ p,p = z * 18446744073709551616 ^ (n + 1):=⟨_,rfl⟩
  obtain ⟨p6,e6⟩:∃ p,p = X % 18446744073709551616 ^ n:=⟨_,rfl⟩
  rw [← e1,← e2,← e3,← e4] at k1
  rw [← e4,← e5] at h
  rw [← e3,← e5,← e6] at hX
  rw [← e1,← e2,← e6]
  clear e1 e2 e3 e4 e5 e6
  omega
theorem mp_sumB {Y T uM S' c t q n:Nat} (hn:0 < n) (hst:18446744073709551616 * S' = T + uM) (h2:18446744073709551616 * (Y % 18446744073709551616 ^ (n - 1) + c * 18446744073709551616 ^ (n - 1)) = T % 18446744073709551616 ^ n + uM)
    (ht:t = T / 18446744073709551616 ^ n % 18446744073709551616) (hq:q = T / 18446744073709551616 ^ (n + 1)) :
    S' = Y % 18446744073709551616 ^ (n - 1) + (t + c) % 18446744073709551616 * 18446744073709551616 ^ (n - 1) + (q + (t + c) / 18446744073709551616) * 18446744073709551616 ^ n:=by
  have hpn1:18446744073709551616 ^ n = 18446744073709551616 * 18446744073709551616 ^ (n - 1):=by rw [← Nat.pow_succ',show (n - 1).succ = n by omega]
  have hpn:18446744073709551616 ^ (n + 1) = 18446744073709551616 * 18446744073709551616 ^ n:=Nat.pow_succ'
  have hTs:=mp_split T n
  rw [← ht,← hq] at hTs
  have hdm:=Nat.div_add_mod (t + c) 18446744073709551616
  have k1:18446744073709551616 * ((t + c) % 18446744073709551616 * 18446744073709551616 ^ (n - 1)) + 18446744073709551616 * ((t + c) / 18446744073709551616 * 18446744073709551616 ^ n) = t * 18446744073709551616 ^ n + c * 18446744073709551616 ^ n:=by
    rw [← Nat.add_mul]
    conv => rhs;rw [← hdm]
    rw [Nat.add_mul,Nat.add_comm]
    congr 1
    · ac_rfl
    · rw [hpn1];ac_rfl
  have k2:18446744073709551616 * (c * 18446744073709551616 ^ (n - 1)) = c * 18446744073709551616 ^ n:=by rw [hpn1];ac_rfl
  have k3:18446744073709551616 * (q * 18446744073709551616 ^ n) = q * 18446744073709551616 ^ (n + 1):=by rw [hpn];ac_rfl
  rw [Nat.mul_add,k2] at h2
  rw [Nat.add_mul]
  clear hpn hpn1 hdm k2 ht hq
  obtain ⟨p1,e1⟩:∃ p,p = (t + c) % 18446744073709551616 * 18446744073709551616 ^ (n - 1):=⟨_,rfl⟩
  obtain ⟨p2,e2⟩:∃ p,p = (t + c) / 18446744073709551616 * 18446744073709551616 ^ n:=⟨_,rfl⟩
  obtain ⟨p3,e3⟩:∃ p,p = q * 18446744073709551616 ^ n:=⟨_,rfl⟩
  obtain ⟨p4,e4⟩:∃ p,p = c * 18446744073709551616 ^ n:=⟨_,rfl⟩
  obtain ⟨p5,e5⟩:∃ p,p = q * 18446744073709551616 ^ (n + 1):=⟨_,rfl⟩
  obtain ⟨p6,e6⟩:∃ p,p = t * 18446744073709551616 ^ n:=⟨_,rfl⟩
  obtain ⟨p7,e7⟩:∃ p,p = Y % 18446744073709551616 ^ (n - 1):=⟨_,rfl⟩
  obtain ⟨p8,e8⟩:∃ p,p = T % 18446744073709551616 ^ n:=⟨_,rfl⟩
  rw [← e1,← e2,← e6,← e4] at k1
  rw [← e3,← e5] at k3
  rw [← e7,← e4,← e8] at h2
  rw [← e8,← e6,← e5] at hTs
  rw [← e7,← e1,← e2,← e3]
  clear e1 e2 e3 e4 e5 e6 e7 e8
  omega
theorem mp_small {S M x y n q:Nat} (hS:S < 2 * M) (hM:M < 18446744073709551616 ^ n) (h:S = x + y + q * 18446744073709551616 ^ n):q < 2:=by
  rcases Nat.lt_or_ge q 2 with g | g
  · exact g
  · have:2 * 18446744073709551616 ^ n≤q * 18446744073709551616 ^ n:=Nat.mul_le_mul_right _ g
    omega
theorem mp_end {m a b rr:List Int} {K:Int} (hm:Wd m) (n:Nat) (hn:m.length = n) (hn3:n≤300) (s:List Int) (z S:Nat) (hl:s.length = n + 2) (hs:Wd s) (hS:S < 2 * nW m) (h:nW s = S + z * 18446744073709551616 ^ (n + 1)) :
    Ev (fun k => mont_Product.l0 k a b (n:Int) s (n:Int) (n:Int) m K rr) (wds n (S % nW m)):=by
  have hMl:nW m < 18446744073709551616 ^ n:=by rw [← hn];exact nW_lt hm
  have hpn:18446744073709551616 ^ (n + 1) = 18446744073709551616 * 18446744073709551616 ^ n:=Nat.pow_succ'
  have hpp:0 < 18446744073709551616 ^ n:=Nat.pow_pos (by decide)
  have hz:z * 18446744073709551616 ^ (n + 1) = z * 18446744073709551616 * 18446744073709551616 ^ n:=by rw [hpn,← Nat.mul_assoc]
  obtain ⟨less,low,f,r1,r2,r3,r4,r5,r6⟩:=dq_round hm (by rw [hn];exact hn3) hS
  rw [hn] at r1 r4 r5
  have htk:s.take n = wds n S:=by
    rw [show s = wds (n + 2) (nW s) from by rw [← hl];exact (dgs_num hs).symm,lq_take _ (Nat.le_add_right _ _)]
    show dgs _ _ _ = dgs _ _ _
    rw [← dgs_mod n (nW s),← dgs_mod n S,h,hz,Nat.add_mul_mod_self_right]
  have hlt:S / 18446744073709551616 ^ n < 18446744073709551616:=(Nat.div_lt_iff_lt_mul hpp).2 (by
    have h1:2 * nW m≤2 * 18446744073709551616 ^ n:=Nat.mul_le_mul_left _ (Nat.le_of_lt hMl)
    have h2:2 * 18446744073709551616 ^ n≤18446744073709551616 * 18446744073709551616 ^ n:=Nat.mul_le_mul_right _ (by decide)
    exact Nat.lt_of_lt_of_le hS (Nat.le_trans h1 h2))
  have hrd:at0 s n = ((S / 18446744073709551616 ^ n:Nat):Int):=by
    rw [at0_nW hs,h,hz,Nat.add_mul_div_right _ _ hpp,Nat.add_mul_mod_self_right,Nat.mod_eq_of_lt hlt]
  clear h hz hpn hpp hMl hlt hS
  refine Ev.step (fun k => mont_Product.l0.eq_2 ..) (ev_neg (by omega) (ev_pos (by omega) (ev_pos (by omega) ?_)))
  rw [Int.toNat_natCast,htk,rdA,hrd]
  refine ev_bind0 r1 (ev_pos (by omega) ?_)
  simp only []
  rw [r4]
  exact ev_bind0 r5 (ev_const rfl)
theorem mp_outer {m a b rr:List Int} {Kn:Nat} (hm:Wd m) (ha:Wd a) (hb:Wd b) (n:Nat) (hn:m.length = n) (hna:a.length = n) (hnb:b.length = n) (hn0:0 < n) (hn3:n≤300) (hKl:Kn < 18446744073709551616) (hK:(nW m * Kn + 1) % 18446744073709551616 = 0) (hM:0 < nW m) (hbM:nW b < nW m) :
    ∀ (d i:Nat) (s:List Int) (z:Nat),i + d = n→s.length = n + 2→Wd s→nW s = mpS (nW a) (nW b) (nW m) Kn i + z * 18446744073709551616 ^ (n + 1) →
      Ev (fun k => mont_Product.l0 k a b (n:Int) s (n:Int) (i:Int) m (Kn:Int) rr) (wds n (mpS (nW a) (nW b) (nW m) Kn n % nW m)):=by
  have hMl:=Aside0.mk (show nW m < 18446744073709551616 ^ n by rw [← hn];exact nW_lt hm)
  have HS:=Aside0.mk (fun i => mpS_lt (A:=nW a) (b:=nW b) hK hbM hM i)
  have HT:=Aside0.mk (fun i => mpS_step (A:=nW a) (b:=nW b) hK i)
  have HX:=Aside0.mk (fun X => mp_exact (X:=X) hK)
  clear hK hbM
  intro d
  induction d with
  | zero =>
    intro i s z hi hl hs h
    have h:=Aside0.mk h
    obtain rfl:i = n:=by omega
    exact mp_end hm i hn hn3 s z _ hl hs (HS.out i) h.out
  | succ d ih =>
    intro i s z hi hl hs h
    have ih:=Aside0.mk ih
    have h:=Aside0.mk h
    have hzz:=Aside0.mk (show nW s / 18446744073709551616 ^ (n + 1) = z from by
      have hS:=HS.out i
      have hp:2 * 18446744073709551616 ^ n≤18446744073709551616 ^ (n + 1):=by rw [Nat.pow_succ'];exact Nat.mul_le_mul_right _ (by decide)
      have h1:2 * nW m≤2 * 18446744073709551616 ^ n:=Nat.mul_le_mul_left _ (Nat.le_of_lt hMl.out)
      rw [h.out,Nat.add_mul_div_right _ _ (Nat.pow_pos (by decide)),Nat.div_eq_of_lt (Nat.lt_of_lt_of_le hS (Nat.le_trans h1 hp)),Nat.zero_add])
    refine Ev.step (fun k => mont_Product.l0.eq_2 ..) (ev_pos (by omega) (ev_bind0 rfl ?_))
    refine mp_inner ha hb n i hn hna hnb hn3 (by omega) (nW s) z _ ?_ n 0 0 s (by omega) hl hs (by decide) hzz.out (by simp [Nat.mod_one])
    intro s1 c1 hl1 hs1 hc1 hz1 h1
    rw [h.out] at h1
    have hA:=mp_sumA h1 hz1 rfl
    refine mp_mid hm n i c1 _ _ _ hn hn0 hn3 hKl hl1 hs1 hc1 rfl hA rfl (HX.out _) _ ?_
    have hst:=HT.out i
    intro y c hyl hy hc hTv hce
    have hd0:n - 1 + 1 = n:=by omega
    refine mp_second hm n i hn hn0 hn3 _ _ (Nat.mod_lt _ (by decide)) _ ?_ (n - 1) 0 c y (by omega) hyl hy hc (by rw [hTv]) (by rw [Nat.pow_zero,Nat.mod_one,Nat.zero_add,Nat.mul_one,Nat.zero_add,Nat.pow_one];exact hce)
    intro s2 c2 hl2 hs2 hc3 hd2 h2
    have hB:=mp_sumB hn0 hst h2 (t:=nW s2 / 18446744073709551616 ^ n % 18446744073709551616) (q:=nW s2 / 18446744073709551616 ^ (n + 1)) (by rw [hd2]) (by rw [Nat.pow_succ,← Nat.div_div_eq_div_mul,hd2,Nat.div_div_eq_div_mul])
    refine mp_last n i c2 _ _ _ hn0 hn3 (by omega) hl2 hs2 hc3 rfl rfl (mp_small (HS.out (i + 1)) hMl.out hB) _ ?_
    intro s3 hl3 hs3 h3
    rw [← hB] at h3
    exact ih.out (i + 1) s3 _ (by omega) hl3 hs3 h3
theorem sp_mont_Product {m a b rr:List Int} {K:Int} (hm:Wd m) (ha:Wd a) (hb:Wd b) (hK:IsK (nW m) K) (ho:nW m % 2 = 1) (hna:a.length = m.length) (hnb:b.length = m.length) (hn3:m.length≤300) (hbM:nW b < nW m) :
    ∃ r,r < nW m∧(r * 18446744073709551616 ^ m.length) % nW m = (nW a * nW b) % nW m∧Ev (fun k => mont_Product.f k m K rr a b) (wds m.length r):=by
  obtain ⟨Kn,rfl,hKl,hKe⟩:=isK_nat hK ho
  have hM:0 < nW m:=by omega
  have hn0:0 < m.length:=by
    rcases Nat.eq_zero_or_pos m.length with h | h
    · have:=nW_lt hm
      rw [h,Nat.pow_zero] at this
      omega
    · exact h
  refine ⟨mpS (nW a) (nW b) (nW m) Kn m.length % nW m,Nat.mod_lt _ hM,?_,?_⟩
  · obtain ⟨Q,hQ⟩:=mpS_rel (A:=nW a) (b:=nW b) hKe m.length
    rw [Nat.mul_mod,Nat.mod_mod,← Nat.mul_mod,hQ,Nat.add_mul_mod_self_right,← hna,Nat.mod_eq_of_lt (nW_lt ha)]
  · have e1:wrap64 ((m.length:Int) + 2) = ((m.length + 2:Nat):Int):=by rw [w64 (by omega) (by omega)];omega
    unfold mont_Product.f
    rw [e1]
    refine ev_pos (by omega) (ev_pos (by rw [Int.toNat_natCast];omega) ?_)
    rw [Int.toNat_natCast]
    have hz:List.replicate (m.length + 2) (0:Int) = wds (m.length + 2) 0:=(dgs_zero _).symm
    refine mp_outer hm ha hb m.length rfl hna hnb hn0 hn3 hKl hKe hM hbM m.length 0 _ 0 (by omega) List.length_replicate (by rw [hz];exact wds_Wd _ _) ?_
    rw [hz,nW_wds (Nat.pow_pos (by decide)),Nat.zero_mul]
    rfl
end Go.Proofs.Ytonpekldcnankaa.X
end
section
namespace Go.Proofs.Ytonpekldcnankaa.X
open Go.RowKit Go.Proofs.YtonpekldcnankaaW.PrintWords Go.Proofs.YtonpekldcnankaaW.PrintLast Go.Proofs.YtonpekldcnankaaW.PrintMore Go.Proofs.Ytonpekldcnankaa.Ma
set_option linter.unusedVariables false
set_option linter.unusedSimpArgs false
theorem prod_callsR {m rr:List Int} {K:Int} (h:IsMod m K rr) {x y r:Nat} (hx:x < nW m) (hy:y < nW m) (hr:r < nW m) (hrel:(r * 18446744073709551616 ^ m.length) % nW m = (x * y) % nW m)
    (A0:Option Addr) (c0:Nat) (A2:Option Addr) (c2:Nat) (W:World) (h0:Kd.C (Kd.int .u64) W A0 m.length m) (hc0:m.length≤c0) (h2:Kd.C (Kd.int .u64) W A2 rr.length rr) (hc2:rr.length≤c2)
    (A1:Option Addr) (c1:Nat) (A3:Option Addr) (c3:Nat) (g1:Rw m.length W A1 c1 x) (g3:Rw m.length W A3 c3 y) :
    Calls Try.prog 109 #[.pointer none,.agg #[.slice A0 m.length c0,.int .u64 K,.slice A2 rr.length c2],.slice A1 m.length c1,.slice A3 m.length c3] W fun e w' => ∃ v,e = .returned v∧Kd.R (Kd.int .u64) 24 w' W.heap.size (fun _ => True) v (wds m.length r)∧Below W.heap.size W w':=by
  have hl:=h.len
  obtain ⟨hm,h130,h1,ho,hK,_,_⟩:=id h
  have hM:=nW_lt hm
  have ex:nW (wds m.length x) = x:=nW_wds (by omega)
  have ey:nW (wds m.length y) = y:=nW_wds (by omega)
  obtain ⟨s,s1,s2,k,hk⟩:=sp_mont_Product (rr:=rr) hm (wds_Wd m.length x) (wds_Wd m.length y) hK ho (dgs_length _ _ _) (dgs_length _ _ _) (by omega) (by rw [ey];exact hy)
  rw [ex,ey] at s2
  have e:s = r:=by
    have:=mp_invW ho (n:=m.length) (s2.trans hrel.symm)
    rwa [Nat.mod_eq_of_lt s1,Nat.mod_eq_of_lt hr] at this
  subst e
  have hc:=mont_Product.calls k A0 c0 m K A2 c2 rr A1 c1 (wds m.length x) A3 c3 (wds m.length y) _ W h0 hc0 h2 hc2 (by rw [dgs_length];exact g1.1) (by rw [dgs_length];exact g1.2) (by rw [dgs_length];exact g3.1) (by rw [dgs_length];exact g3.2) (hk k (Nat.le_refl _))
  rw [dgs_length,dgs_length] at hc
  exact hc
theorem prod_calls {m rr:List Int} {K:Int} (h:IsMod m K rr) {x y r:Nat} (hx:x < nW m) (hy:y < nW m) (hr:r < nW m) (hrel:(r * 18446744073709551616 ^ m.length) % nW m = (x * y) % nW m)
    (A0:Option Addr) (c0:Nat) (A2:Option Addr) (c2:Nat) (W:World) (h0:Kd.C (Kd.int .u64) W A0 m.length m) (hc0:m.length≤c0) (h2:Kd.C (Kd.int .u64) W A2 rr.length rr) (hc2:rr.length≤c2)
    (A1:Option Addr) (c1:Nat) (A3:Option Addr) (c3:Nat) (g1:Rw m.length W A1 c1 x) (g3:Rw m.length W A3 c3 y) :
    Calls Try.prog 109 #[.pointer none,.agg #[.slice A0 m.length c0,.int .u64 K,.slice A2 rr.length c2],.slice A1 m.length c1,.slice A3 m.length c3] W fun e w' => ∃ A c,e = .returned (.slice A m.length c)∧Rw m.length w' A c r∧Below W.heap.size W w':=by
  refine (prod_callsR h hx hy hr hrel A0 c0 A2 c2 W h0 hc0 h2 hc2 A1 c1 A3 c3 g1 g3).mono ?_
  rintro e w' ⟨v,rfl,q1,q2⟩
  obtain ⟨A,c,rfl,q3⟩:=Rw.of_R q1
  exact ⟨A,c,rfl,q3,q2⟩
theorem mont_form1 {M Bn a b x y r:Nat} (hx:x % M = (a * Bn) % M) (hy:y % M = (b * Bn) % M) (hr:r % M = (a * b * Bn) % M):(r * Bn) % M = (x * y) % M:=by
  rw [Nat.mul_mod x,hx,hy,← Nat.mul_mod,Nat.mul_mod r,hr,← Nat.mul_mod]
  congr 1
  ac_rfl
end Go.Proofs.Ytonpekldcnankaa.X
end
