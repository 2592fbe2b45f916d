/- Texts of the walk and of the plain laws, laid together by a program: Sp6m. -/
import Derived.Test.YtalfniohakahlaaZD0
import Derived.Test.YtalfniohakahlaaZD1
import Derived.Test.YtalfniohakahlaaZD2
import Derived.Test.YtalfniohakahlaaZD4
import Derived.Test.YtalfniohakahlaaZD6
import Derived.Test.YtalfniohakahlaaZD15
import Derived.Test.YtalfniohakahlaaZD14
import Derived.Test.YtalfniohakahlaaZD21
import Derived.Test.YtalfniohakahlaaZD23
import Derived.Test.YtalfniohakahlaaZD24
import Derived.Test.YtalfniohakahlaaZD27
import Derived.Test.YtalfniohakahlaaZD34
import Derived.Test.YtalfniohakahlaaZD39
namespace Go.Proofs.Ytalfniohakahlaa.X
open Go.RowKit Go.Proofs.YtalfniohakahlaaW.PrintWords Go.Proofs.YtalfniohakahlaaW.PrintLast Go.Proofs.Ytalfniohakahlaa.Ma
set_option linter.unusedVariables false
set_option linter.unusedSimpArgs false
theorem mp_split (X i:Nat):X = X % 18446744073709551616 ^ i + X / 18446744073709551616 ^ i % 18446744073709551616 * 18446744073709551616 ^ i + X / 18446744073709551616 ^ (i + 1) * 18446744073709551616 ^ (i + 1):=by
  have h1:=Nat.div_add_mod X (18446744073709551616 ^ i)
  have h2:=Nat.div_add_mod (X / 18446744073709551616 ^ i) 18446744073709551616
  rw [Nat.div_div_eq_div_mul,← Nat.pow_succ] at h2
  have e:X / 18446744073709551616 ^ (i + 1) * 18446744073709551616 ^ (i + 1) = 18446744073709551616 ^ i * (18446744073709551616 * (X / 18446744073709551616 ^ (i + 1))):=by rw [Nat.pow_succ];ac_rfl
  rw [e,Nat.mul_comm (X / 18446744073709551616 ^ i % 18446744073709551616),Nat.add_assoc,← Nat.mul_add,Nat.add_comm (X / 18446744073709551616 ^ i % 18446744073709551616),h2]
  omega
theorem mp_set {s:List Int} (h:Wd s) {i:Nat} (hi:i < s.length) (y:Nat):nW (s.set i (y:Int)) = nW s % 18446744073709551616 ^ i + y * 18446744073709551616 ^ i + nW s / 18446744073709551616 ^ (i + 1) * 18446744073709551616 ^ (i + 1):=by
  have h1:=num_set (B:=18446744073709551616) (y:Int) hi
  have h2:=mp_split (nW s) i
  rw [Int.toNat_natCast,at0_nW h,Int.toNat_natCast] at h1
  show num _ _ = _
  change _ = nW s + _ at h1
  generalize num 18446744073709551616 (s.set i (y:Int)) = A at *
  generalize nW s / 18446744073709551616 ^ i % 18446744073709551616 * 18446744073709551616 ^ i = p at *
  omega
theorem mp_set_mod {s:List Int} (h:Wd s) {i:Nat} (hi:i < s.length) {y:Nat} (hy:y < 18446744073709551616):nW (s.set i (y:Int)) % 18446744073709551616 ^ (i + 1) = nW s % 18446744073709551616 ^ i + y * 18446744073709551616 ^ i∧nW (s.set i (y:Int)) / 18446744073709551616 ^ (i + 1) = nW s / 18446744073709551616 ^ (i + 1):=by
  have hB:0 < 18446744073709551616 ^ i:=Nat.pow_pos (by decide)
  have hl:nW s % 18446744073709551616 ^ i + y * 18446744073709551616 ^ i < 18446744073709551616 ^ (i + 1):=by
    have h1:=Nat.mod_lt (nW s) hB
    have h2:(y + 1) * 18446744073709551616 ^ i≤18446744073709551616 * 18446744073709551616 ^ i:=Nat.mul_le_mul_right _ hy
    rw [Nat.add_mul] at h2
    rw [Nat.pow_succ,Nat.mul_comm _ 18446744073709551616]
    omega
  rw [mp_set h hi y,Nat.mul_comm (nW s / _)]
  exact ⟨by rw [Nat.add_mul_mod_self_left,Nat.mod_eq_of_lt hl],by rw [Nat.add_mul_div_left _ _ (Nat.pow_pos (by decide)),Nat.div_eq_of_lt hl,Nat.zero_add]⟩
theorem mp_next (X i:Nat):X % 18446744073709551616 ^ (i + 1) = X % 18446744073709551616 ^ i + X / 18446744073709551616 ^ i % 18446744073709551616 * 18446744073709551616 ^ i:=by
  rw [Nat.pow_succ,Nat.mod_mul,Nat.mul_comm (X / _ % _)]
theorem mp_inner {m a b rr:List Int} {K:Int} (ha:Wd a) (hb:Wd b) (n i:Nat) (hn:m.length = n) (hna:a.length = n) (hnb:b.length = n) (hn3:n≤300) (hi:i < n) (S0 z:Nat) (r:List Int)
    (hK:∀ (s:List Int) (c:Nat),s.length = n + 2→Wd s→c < 18446744073709551616→nW s / 18446744073709551616 ^ (n + 1) = z→nW s + c * 18446744073709551616 ^ n = S0 + (nW a / 18446744073709551616 ^ i % 18446744073709551616) * nW b→Ev (fun k => mont_Product.l1 k a b (n:Int) s (i:Int) (c:Int) (n:Int) (i:Int) (n:Int) (n:Int) m K rr) r) :
    ∀ (d j c:Nat) (s:List Int),j + d = n→s.length = n + 2→Wd s→c < 18446744073709551616→nW s / 18446744073709551616 ^ (n + 1) = z→nW s + c * 18446744073709551616 ^ j = S0 + (nW a / 18446744073709551616 ^ i % 18446744073709551616) * (nW b % 18446744073709551616 ^ j) →
      Ev (fun k => mont_Product.l1 k a b (n:Int) s (i:Int) (c:Int) (n:Int) (i:Int) (n:Int) (j:Int) m K rr) r:=by
  intro d
  induction d with
  | zero =>
    intro j c s hj hl hs hc hz h
    have:j = n:=by omega
    subst this
    refine hK s c hl hs hc hz ?_
    rw [h,← hnb,Nat.mod_eq_of_lt (nW_lt hb)]
  | succ d ih =>
    intro j c s hj hl hs hc hz h
    replace h:=Aside0.mk h
    have hz':=fun y (hy:y < 18446744073709551616) => (mp_set_mod hs (i:=j) (by omega) (y:=y) hy).2
    replace hz':=Aside0.mk hz'
    replace hz:=Aside0.mk hz
    have hlt:j < s.length:=by omega
    refine Ev.step (fun k => mont_Product.l1.eq_2 ..) (ev_pos (by omega) (ev_pos (by omega) (ev_pos (by omega) (ev_pos (by omega) (ev_pos (by omega) (ev_pos (by omega) ?_))))))
    rw [w64_succ (i:=j) (by omega),Int.toNat_natCast,rdA,rdA,rdA,at0_nW ha,at0_nW hb]
    have ho:=at0_dg (by decide) hs j
    have hx:=Nat.mod_lt (nW a / 18446744073709551616 ^ i) (show 0 < 18446744073709551616 by decide)
    have hy:=Nat.mod_lt (nW b / 18446744073709551616 ^ j) (show 0 < 18446744073709551616 by decide)
    have hst:=mul_step (B:=18446744073709551616) (x:=nW a / 18446744073709551616 ^ i % 18446744073709551616) (c:=c) (S:=S0) (i:=0) (j:=j) (out:=s) (b:=b) (by rw [Nat.zero_add,Nat.pow_zero,Nat.mul_one];exact h.out) (by rw [Nat.zero_add];exact hlt)
    clear h
    simp only [Nat.zero_add,Nat.pow_zero,Nat.mul_one] at hst
    replace hst:=Aside0.mk hst
    have eN:num 18446744073709551616 b = nW b:=rfl
    rw [eN] at hst
    generalize hX:nW a / 18446744073709551616 ^ i % 18446744073709551616 = x at *
    generalize hY:nW b / 18446744073709551616 ^ j % 18446744073709551616 = y at *
    obtain ⟨o,hO⟩:∃ o:Nat,at0 s j = (o:Int):=Int.eq_ofNat_of_zero_le ho.1
    rw [hO] at hst ho ⊢
    rw [Int.toNat_natCast] at hst
    rw [sp_word_Mul (wd_iff.2 ⟨by omega,by omega⟩) (wd_iff.2 ⟨by omega,by omega⟩) (wd_iff.2 ⟨by omega,by omega⟩) (wd_iff.2 ⟨by omega,by omega⟩)]
    have hxy:x * y≤18446744073709551615 * 18446744073709551615:=Nat.mul_le_mul (by omega) (by omega)
    have e2:((x:Int) * (y:Int) + (o:Int) + (c:Int)) = ((x * y + o + c:Nat):Int):=by rw [Int.natCast_add,Int.natCast_add,Int.natCast_mul]
    refine ev_bind0 rfl ?_
    simp only [e2]
    generalize hT:x * y + o + c = T at *
    have hTb:T < 18446744073709551616 * 18446744073709551616:=by generalize x * y = p at *;omega
    have e3:(T:Int) % 18446744073709551616 = ((T % 18446744073709551616:Nat):Int):=by omega
    have e4:(T:Int) / 18446744073709551616 = ((T / 18446744073709551616:Nat):Int):=by omega
    rw [e3,e4]
    exact ih (j + 1) (T / 18446744073709551616) (s.set j ((T % 18446744073709551616:Nat):Int)) (by omega) (by rw [List.length_set];exact hl) (dg_set hs ⟨by omega,by omega⟩ _) (by omega) (by
      rw [← hz.out,show n + 1 = (j + 1) + (n - j) by omega,Nat.pow_add,← Nat.div_div_eq_div_mul,← Nat.div_div_eq_div_mul,hz'.out _ (Nat.mod_lt _ (by decide))]) hst.out
theorem mp_second {m a b rr:List Int} {K:Int} (hm:Wd m) (n i:Nat) (hn:m.length = n) (hn1:0 < n) (hn3:n≤300) (T u:Nat) (hu:u < 18446744073709551616) (r:List Int)
    (hK:∀ (s:List Int) (c:Nat),s.length = n + 2→Wd s→c < 18446744073709551616→nW s / 18446744073709551616 ^ n = T / 18446744073709551616 ^ n→18446744073709551616 * (nW s % 18446744073709551616 ^ (n - 1) + c * 18446744073709551616 ^ (n - 1)) = T % 18446744073709551616 ^ n + u * nW m →
      Ev (fun k => mont_Product.l2 k a b (n:Int) s (c:Int) (u:Int) (n:Int) (n:Int) (i:Int) m K rr) r) :
    ∀ (d j c:Nat) (s:List Int),j + 1 + d = n→s.length = n + 2→Wd s→c < 18446744073709551616→nW s / 18446744073709551616 ^ (j + 1) = T / 18446744073709551616 ^ (j + 1)→18446744073709551616 * (nW s % 18446744073709551616 ^ j + c * 18446744073709551616 ^ j) = T % 18446744073709551616 ^ (j + 1) + u * (nW m % 18446744073709551616 ^ (j + 1)) →
      Ev (fun k => mont_Product.l2 k a b (n:Int) s (c:Int) (u:Int) ((j + 1:Nat):Int) (n:Int) (i:Int) m K rr) r:=by
  intro d
  induction d with
  | zero =>
    intro j c s hj hl hs hc h1 h2
    have e:j + 1 = n:=by omega
    rw [e] at h1 h2 ⊢
    refine hK s c hl hs hc h1 ?_
    rw [show n - 1 = j by omega,h2,← hn,Nat.mod_eq_of_lt (nW_lt hm)]
  | succ d ih =>
    intro j c s hj hl hs hc h1 h2
    replace h1:=Aside0.mk h1
    replace h2:=Aside0.mk h2
    have e1:wrap64 (((j + 1:Nat):Int) - 1) = (j:Int):=by rw [w64 (by omega) (by omega)];omega
    refine Ev.step (fun k => mont_Product.l2.eq_2 ..) (ev_pos (by omega) (ev_pos (by omega) (ev_pos (by omega) (ev_pos (by omega) ?_))))
    rw [e1,w64_succ (i:=j + 1) (by omega),Int.toNat_natCast,rdA,rdA,at0_nW hm,at0_nW hs]
    have hy:=Nat.mod_lt (nW m / 18446744073709551616 ^ (j + 1)) (show 0 < 18446744073709551616 by decide)
    have ho:=Nat.mod_lt (nW s / 18446744073709551616 ^ (j + 1)) (show 0 < 18446744073709551616 by decide)
    have hTj:nW s / 18446744073709551616 ^ (j + 1) % 18446744073709551616 = T / 18446744073709551616 ^ (j + 1) % 18446744073709551616:=by rw [h1.out]
    have hTn:=mp_next T (j + 1)
    have hMn:=mp_next (nW m) (j + 1)
    have hdd:nW s / 18446744073709551616 ^ (j + 1 + 1) = T / 18446744073709551616 ^ (j + 1 + 1):=by rw [Nat.pow_succ,← Nat.div_div_eq_div_mul,h1.out,Nat.div_div_eq_div_mul,← Nat.pow_succ]
    have hTn':=Aside0.mk hTn
    have hMn':=Aside0.mk hMn
    have hdd':=Aside0.mk hdd
    clear hTn hMn hdd
    generalize hY:nW m / 18446744073709551616 ^ (j + 1) % 18446744073709551616 = y at *
    generalize hO:nW s / 18446744073709551616 ^ (j + 1) % 18446744073709551616 = o at *
    rw [sp_word_Mul (wd_iff.2 ⟨by omega,by omega⟩) (wd_iff.2 ⟨by omega,by omega⟩) (wd_iff.2 ⟨by omega,by omega⟩) (wd_iff.2 ⟨by omega,by omega⟩)]
    have hxy:u * y≤18446744073709551615 * 18446744073709551615:=Nat.mul_le_mul (by omega) (by omega)
    have e2:((u:Int) * (y:Int) + (o:Int) + (c:Int)) = ((u * y + o + c:Nat):Int):=by rw [Int.natCast_add,Int.natCast_add,Int.natCast_mul]
    refine ev_bind0 rfl (ev_pos (by omega) (ev_pos (by omega) ?_))
    simp only [e2]
    obtain ⟨V,hV⟩:∃ V:Nat,V = u * y + o + c:=⟨_,rfl⟩
    rw [← hV]
    have hVb:V < 18446744073709551616 * 18446744073709551616:=by generalize u * y = p at *;omega
    have e3:(V:Int) % 18446744073709551616 = ((V % 18446744073709551616:Nat):Int):=by omega
    have e4:(V:Int) / 18446744073709551616 = ((V / 18446744073709551616:Nat):Int):=by omega
    rw [e3,e4]
    obtain ⟨g1,g2⟩:=mp_set_mod hs (i:=j) (by omega) (y:=V % 18446744073709551616) (Nat.mod_lt _ (by decide))
    have hV2:=Nat.div_add_mod V 18446744073709551616
    refine ih (j + 1) (V / 18446744073709551616) (s.set j ((V % 18446744073709551616:Nat):Int)) (by omega) (by rw [List.length_set];exact hl) (dg_set hs ⟨by omega,by omega⟩ _) (by omega) ?_ ?_
    · rw [Nat.pow_succ,← Nat.div_div_eq_div_mul,g2,Nat.div_div_eq_div_mul,← Nat.pow_succ]
      exact hdd'.out
    · rw [g1,hTn'.out,hMn'.out,← hTj,Nat.mul_add u]
      have h2':=h2.out
      have eB:18446744073709551616 ^ (j + 1) = 18446744073709551616 * 18446744073709551616 ^ j:=Nat.pow_succ'
      have eV:18446744073709551616 * (V / 18446744073709551616 * 18446744073709551616 ^ (j + 1)) + 18446744073709551616 * (V % 18446744073709551616 * 18446744073709551616 ^ j) = V * 18446744073709551616 ^ (j + 1):=by
        conv => rhs;rw [← hV2]
        rw [eB]
        generalize V / 18446744073709551616 = p
        generalize V % 18446744073709551616 = q
        generalize 18446744073709551616 ^ j = z
        rw [Nat.add_mul]
        congr 1 <;> ac_rfl
      have eS:V * 18446744073709551616 ^ (j + 1) = o * 18446744073709551616 ^ (j + 1) + u * (y * 18446744073709551616 ^ (j + 1)) + 18446744073709551616 * (c * 18446744073709551616 ^ j):=by
        rw [hV,Nat.add_mul,Nat.add_mul,Nat.mul_assoc u,Nat.add_comm (u * _)]
        congr 1
        rw [eB]
        ac_rfl
      rw [Nat.mul_add,Nat.mul_add] at *
      generalize V * 18446744073709551616 ^ (j + 1) = v1 at *
      generalize 18446744073709551616 * (V / 18446744073709551616 * 18446744073709551616 ^ (j + 1)) = v2 at *
      generalize 18446744073709551616 * (V % 18446744073709551616 * 18446744073709551616 ^ j) = v3 at *
      generalize o * 18446744073709551616 ^ (j + 1) = v4 at *
      generalize u * (y * 18446744073709551616 ^ (j + 1)) = v5 at *
      generalize 18446744073709551616 * (c * 18446744073709551616 ^ j) = v6 at *
      generalize 18446744073709551616 * (nW s % 18446744073709551616 ^ j) = v7 at *
      omega
def mpS (A b M Kn:Nat):Nat→Nat
  | 0 => 0
  | i + 1 => (mpS A b M Kn i + (A / 18446744073709551616 ^ i % 18446744073709551616) * b + ((mpS A b M Kn i + (A / 18446744073709551616 ^ i % 18446744073709551616) * b) % 18446744073709551616 * Kn % 18446744073709551616) * M) / 18446744073709551616
theorem mp_exact {X M Kn:Nat} (hK:(M * Kn + 1) % 18446744073709551616 = 0):(X + X % 18446744073709551616 * Kn % 18446744073709551616 * M) % 18446744073709551616 = 0:=by
  have e:(X + X % 18446744073709551616 * Kn % 18446744073709551616 * M) % 18446744073709551616 = (X * (M * Kn + 1)) % 18446744073709551616:=by
    rw [Nat.mul_add,Nat.mul_one,Nat.add_comm (X * (M * Kn)),Nat.add_mod,Nat.mul_mod (X % 18446744073709551616 * Kn % 18446744073709551616),Nat.mod_mod,← Nat.mul_mod,Nat.mul_assoc,Nat.mul_comm Kn M,Nat.mul_mod (X % _),Nat.mod_mod,← Nat.mul_mod,← Nat.add_mod]
  rw [e,Nat.mul_mod,hK,Nat.mul_zero,Nat.zero_mod]
theorem mpS_step {A b M Kn:Nat} (hK:(M * Kn + 1) % 18446744073709551616 = 0) (i:Nat):18446744073709551616 * mpS A b M Kn (i + 1) = mpS A b M Kn i + (A / 18446744073709551616 ^ i % 18446744073709551616) * b + ((mpS A b M Kn i + (A / 18446744073709551616 ^ i % 18446744073709551616) * b) % 18446744073709551616 * Kn % 18446744073709551616) * M :=
  Nat.mul_div_cancel' (Nat.dvd_of_mod_eq_zero (mp_exact hK))
theorem mpS_lt {A b M Kn:Nat} (hK:(M * Kn + 1) % 18446744073709551616 = 0) (hb:b < M) (hM:0 < M):∀ i,mpS A b M Kn i < 2 * M
  | 0 => by show 0 < _;omega
  | i + 1 => by
    have ih:=mpS_lt (A:=A) hK hb hM i
    have h:=mpS_step (A:=A) (b:=b) hK i
    have h1:(A / 18446744073709551616 ^ i % 18446744073709551616) * b≤18446744073709551615 * M:=Nat.mul_le_mul (by have:=Nat.mod_lt (A / 18446744073709551616 ^ i) (show 0 < 18446744073709551616 by decide);omega) (by omega)
    have h2:((mpS A b M Kn i + (A / 18446744073709551616 ^ i % 18446744073709551616) * b) % 18446744073709551616 * Kn % 18446744073709551616) * M≤18446744073709551615 * M:=Nat.mul_le_mul_right _ (by have:=Nat.mod_lt ((mpS A b M Kn i + (A / 18446744073709551616 ^ i % 18446744073709551616) * b) % 18446744073709551616 * Kn) (show 0 < 18446744073709551616 by decide);omega)
    generalize (A / 18446744073709551616 ^ i % 18446744073709551616) * b = p at *
    generalize ((mpS A b M Kn i + p) % 18446744073709551616 * Kn % 18446744073709551616) * M = q at *
    omega
theorem mpS_rel {A b M Kn:Nat} (hK:(M * Kn + 1) % 18446744073709551616 = 0):∀ i,∃ Q,mpS A b M Kn i * 18446744073709551616 ^ i = (A % 18446744073709551616 ^ i) * b + Q * M
  | 0 => ⟨0,by simp [mpS,Nat.mod_one]⟩
  | i + 1 => by
    obtain ⟨Q,ih⟩:=mpS_rel (A:=A) (b:=b) hK i
    have h:=mpS_step (A:=A) (b:=b) hK i
    refine ⟨Q + ((mpS A b M Kn i + (A / 18446744073709551616 ^ i % 18446744073709551616) * b) % 18446744073709551616 * Kn % 18446744073709551616) * 18446744073709551616 ^ i,?_⟩
    rw [Nat.pow_succ',← Nat.mul_assoc,Nat.mul_comm (mpS A b M Kn (i + 1)),h,← Nat.pow_succ',mp_next A i]
    generalize (mpS A b M Kn i + (A / 18446744073709551616 ^ i % 18446744073709551616) * b) % 18446744073709551616 * Kn % 18446744073709551616 = u at *
    rw [Nat.add_mul,Nat.add_mul,ih,Nat.add_mul,Nat.add_mul]
    generalize A / 18446744073709551616 ^ i % 18446744073709551616 = x
    generalize 18446744073709551616 ^ i = z
    have e1:x * b * z = x * z * b:=by ac_rfl
    have e2:u * M * z = u * z * M:=by ac_rfl
    rw [e1,e2]
    omega
theorem isK_nat {M:Nat} {K:Int} (h:IsK M K) (ho:M % 2 = 1):∃ Kn:Nat,K = (Kn:Int)∧Kn < 18446744073709551616∧(M * Kn + 1) % 18446744073709551616 = 0:=by
  obtain ⟨x,⟨hx1,hx2,_⟩,rfl⟩:=h
  obtain ⟨q,hq⟩:=hx2 (by omega)
  have hw:IntKind.u64.wrap (-x) = -x % 18446744073709551616:=wU _
  have hn:0≤-x % 18446744073709551616:=Int.emod_nonneg _ (by decide)
  have hl:-x % 18446744073709551616 < 18446744073709551616:=Int.emod_lt_of_pos _ (by decide)
  obtain ⟨Kn,hKn⟩:=Int.eq_ofNat_of_zero_le hn
  refine ⟨Kn,by rw [hw,hKn],by omega,?_⟩
  have hd:=Int.emod_add_mul_ediv (-x) 18446744073709551616
  rw [hKn] at hd
  have e:((M * Kn + 1:Nat):Int) = 18446744073709551616 * (((M / 18446744073709551616:Nat):Int) * (Kn:Int) - ((M % 18446744073709551616:Nat):Int) * (-x / 18446744073709551616) - q):=by
    have hM:(M:Int) = 18446744073709551616 * ((M / 18446744073709551616:Nat):Int) + ((M % 18446744073709551616:Nat):Int):=by omega
    have hKe:(Kn:Int) = -x - 18446744073709551616 * (-x / 18446744073709551616):=by omega
    rw [Int.natCast_add,Int.natCast_mul,hM,Int.add_mul,Int.mul_sub,Int.mul_sub,Int.mul_assoc]
    have e1:((M % 18446744073709551616:Nat):Int) * (Kn:Int) = -(((M % 18446744073709551616:Nat):Int) * x) - 18446744073709551616 * (((M % 18446744073709551616:Nat):Int) * (-x / 18446744073709551616)):=by
      rw [hKe,Int.mul_sub,Int.mul_neg]
      congr 1
      exact Int.mul_left_comm _ _ _
    rw [e1]
    have:((1:Nat):Int) = 1:=rfl
    omega
  have:((M * Kn + 1:Nat):Int) % 18446744073709551616 = 0:=by rw [e];exact Int.mul_emod_right _ _
  omega
end Go.Proofs.Ytalfniohakahlaa.X
