/- Texts of the walk and of the plain laws, laid together by a program: Sp5a. -/
import Derived.Test.YtonpekldcnankaaZI0
import Derived.Test.YtonpekldcnankaaZI1
import Derived.Test.YtonpekldcnankaaZI2
import Derived.Test.YtonpekldcnankaaZI5
import Derived.Test.YtonpekldcnankaaZI6
import Derived.Test.YtonpekldcnankaaZI12
import Derived.Test.YtonpekldcnankaaZI13
import Derived.Test.YtonpekldcnankaaZI14
import Derived.Test.YtonpekldcnankaaZI15
namespace Go.Proofs.Ytonpekldcnankaa.X
open Go.RowKit Go.Proofs.YtonpekldcnankaaW.PrintWords Go.Proofs.YtonpekldcnankaaW.PrintLast Go.Proofs.YtonpekldcnankaaW.PrintMore Go.Proofs.Ytonpekldcnankaa.Ma
set_option linter.unusedVariables false
theorem b_or_comm {a b:Int} (h0:0≤a) (h1:a < 18446744073709551616) (h2:0≤b) (h3:b < 18446744073709551616):Go.bits .or .u64 a b = Go.bits .or .u64 b a:=by
  rw [u64_or a b h0 h1 h2 h3,u64_or b a h2 h3 h0 h1,Nat.or_comm]
theorem ref_Mul_inner (a b:Nat) (ha:blen a≤100000000) (hb:blen b≤100000000) (i:Nat) (hi:i < blen a) (S:Nat) (hS:S = (a % 4294967296 ^ i) * b)
    (K:List Int→Prop) (r:List Int)
    (hK:∀ out,out.length = blen a + blen b→dg ((4294967296:Nat):Int) out→(∀ t,i + 1 + blen b≤t→at0 out t = 0)→num 4294967296 out = (a % 4294967296 ^ (i + 1)) * b→Ev (fun k => sconceref03_Mul.l0 k (big b) out (big a) (blen a:Int) ((i:Int) + 1)) r) :
    ∀ (d j c:Nat) (out:List Int),j + d = blen b→out.length = blen a + blen b→dg ((4294967296:Nat):Int) out→(∀ t,i + blen b≤t→at0 out t = 0)→c < 4294967296 →
      num 4294967296 out + c * 4294967296 ^ (i + j) = S + (a / 4294967296 ^ i % 4294967296) * (b % 4294967296 ^ j) * 4294967296 ^ i →
      Ev (fun k => sconceref03_Mul.l1 k (big b) out (i:Int) ((a / 4294967296 ^ i % 4294967296:Nat):Int) (c:Int) (big a) (blen a:Int) (i:Int) (big b) (blen b:Int) (j:Int)) r:=by
  intro d
  induction d with
  | zero =>
    intro j c out hj hl hdg hz hc h
    have hjb:j = blen b:=by clear h hK;omega
    subst hjb
    have hbm:b % 4294967296 ^ blen b = b:=Nat.mod_eq_of_lt (blen_lt b)
    rw [hbm] at h
    replace h:=Aside0.mk h
    clear hbm
    have hlt:i + blen b < out.length:=by omega
    have e1:wrap64 ((i:Int) + ((big b).length:Int)) = ((i + blen b:Nat):Int):=by rw [big_length,w64 (by omega) (by omega)];omega
    refine Ev.step (fun k => sconceref03_Mul.l1.eq_2 ..) (ev_neg (by omega) ?_)
    rw [e1,w64_succ (i:=i) (by omega)]
    refine ev_pos (by omega) (ev_pos (by omega) ?_)
    rw [Int.toNat_natCast,show (c:Int) % 4294967296 = (c:Int) by omega]
    have hs:=num_set (B:=4294967296) (c:Int) hlt
    rw [hz _ (Nat.le_refl _)] at hs
    simp only [Int.toNat_natCast,Int.toNat_zero,Nat.zero_mul,Nat.add_zero] at hs
    have hn:=hK (out.set (i + blen b) (c:Int)) (by rw [List.length_set];exact hl) (dg_set hdg ⟨by omega,by omega⟩ _) (fun t ht => by rw [at0_set hlt,if_neg (by omega),hz t (by omega)]) (by
      rw [hs,h.out,hS,Nat.pow_succ,Nat.mod_mul,Nat.add_mul];congr 1;ac_rfl)
    simpa using hn
  | succ d ih =>
    intro j c out hj hl hdg hz hc h
    replace h:=Aside0.mk h
    have hjb:j < blen b:=by omega
    have hlt:i + j < out.length:=by omega
    have e1:wrap64 ((i:Int) + (j:Int)) = ((i + j:Nat):Int):=by rw [w64 (by omega) (by omega)];omega
    refine Ev.step (fun k => sconceref03_Mul.l1.eq_2 ..) (ev_pos (by omega) (ev_pos (by omega) (ev_pos (by rw [big_length];omega) ?_)))
    rw [e1,w64_succ (i:=j) (by omega)]
    refine ev_pos (by omega) (ev_pos (by omega) ?_)
    rw [Int.toNat_natCast,rdA,rdA,at0_big]
    have ho:=at0_dg (by decide) hdg (i + j)
    have hx:=Nat.mod_lt (a / 4294967296 ^ i) (show 0 < 4294967296 by decide)
    have hy:=Nat.mod_lt (b / 4294967296 ^ j) (show 0 < 4294967296 by decide)
    have hst:=mul_step (b:=big b) (by rw [num_big];exact h.out) hlt
    clear h
    rw [num_big] at hst
    replace hst:=Aside0.mk hst
    generalize hX:a / 4294967296 ^ i % 4294967296 = x at *
    generalize hY:b / 4294967296 ^ j % 4294967296 = y at *
    obtain ⟨o,hO⟩:∃ o:Nat,at0 out (i + j) = (o:Int):=Int.eq_ofNat_of_zero_le ho.1
    rw [hO] at hst ho ⊢
    rw [Int.toNat_natCast] at hst
    have hxy:x * y≤4294967295 * 4294967295:=Nat.mul_le_mul (by omega) (by omega)
    have e2:IntKind.u64.wrap ((c:Int) + IntKind.u64.wrap (IntKind.u64.wrap (IntKind.u64.wrap (x:Int) * IntKind.u64.wrap (y:Int)) + IntKind.u64.wrap (o:Int))) = ((x * y + o + c:Nat):Int):=by
      have q1:IntKind.u64.wrap (x:Int) = (x:Int):=by rw [wU];omega
      have q2:IntKind.u64.wrap (y:Int) = (y:Int):=by rw [wU];omega
      have q3:(x:Int) * (y:Int) = ((x * y:Nat):Int):=by rw [Int.natCast_mul]
      rw [q1,q2,q3]
      generalize x * y = p at *
      simp only [wU];omega
    rw [e2]
    generalize hT:x * y + o + c = T at *
    have hTb:T < 18446744073709551616:=by generalize x * y = p at *;omega
    have e3:(T:Int) % 4294967296 = ((T % 4294967296:Nat):Int):=by omega
    have e4:(T:Int) / 4294967296 = ((T / 4294967296:Nat):Int):=by omega
    rw [e3,e4]
    exact ih (j + 1) (T / 4294967296) (out.set (i + j) ((T % 4294967296:Nat):Int)) (by omega) (by rw [List.length_set];exact hl) (dg_set hdg ⟨by omega,by omega⟩ _) (zero_set hlt (by omega) _ hz) (by omega) hst.out
theorem ref_Mul_outer (a b:Nat) (ha:blen a≤100000000) (hb:blen b≤100000000):∀ (d i:Nat) (out:List Int),i + d = blen a→out.length = blen a + blen b→dg ((4294967296:Nat):Int) out →
    (∀ t,i + blen b≤t→at0 out t = 0)→num 4294967296 out = (a % 4294967296 ^ i) * b →
    Ev (fun k => sconceref03_Mul.l0 k (big b) out (big a) (blen a:Int) (i:Int)) (big (a * b)):=by
  intro d
  induction d with
  | zero =>
    intro i out hi hl hdg hz h
    refine Ev.step (fun k => sconceref03_Mul.l0.eq_2 ..) (ev_neg (by omega) (ev_bind (sp_trim' (x:=a * b) hdg (by omega) ?_) (ev_const rfl)))
    rw [h,show i = blen a by omega,Nat.mod_eq_of_lt (blen_lt a)]
  | succ d ih =>
    intro i out hi hl hdg hz h
    refine Ev.step (fun k => (sconceref03_Mul.l0.eq_2 ..).trans (by rw [big_length])) (ev_pos (by omega) (ev_pos (by omega) (ev_pos (by omega) ?_)))
    rw [rdA,at0_big,big_length]
    exact ref_Mul_inner a b ha hb i (by omega) _ rfl (fun _ => True) _ (fun out' q1 q2 q3 q4 => by have:=ih (i + 1) out' (by omega) q1 q2 q3 q4;simpa using this) (blen b) 0 0 out (by omega) hl hdg hz (by decide) (by simp [h,Nat.mod_one])
theorem sp_ref_Mul {a b:Nat} (ha:blen a≤100000000) (hb:blen b≤100000000):Ev (fun k => sconceref03_Mul.f k (big a) (big b)) (big (a * b)):=by
  unfold sconceref03_Mul.f
  have e1:wrap64 (((big a).length:Int) + ((big b).length:Int)) = ((blen a + blen b:Nat):Int):=by rw [big_length,big_length,w64 (by omega) (by omega)];omega
  rw [e1]
  refine ev_pos (by omega) (ev_pos (by rw [Int.toNat_natCast];omega) ?_)
  rw [Int.toNat_natCast,big_length]
  refine ref_Mul_outer a b ha hb (blen a) 0 _ (by omega) (List.length_replicate) ?_ ?_ ?_
  · intro x hx;rw [(List.mem_replicate.1 hx).2];decide
  · intro t _
    unfold at0
    by_cases ht:t < blen a + blen b
    · simp [ht]
    · simp [ht]
  · rw [num_replicate];simp [Nat.mod_one]
theorem mod_shr (y s:Nat) (hs:s≤32):(y % (4294967296 * 4294967296)) / 2 ^ s % 4294967296 = y / 2 ^ s % 4294967296:=by
  have hp:0 < 2 ^ s:=Nat.pow_pos (by decide)
  have e:4294967296 * 4294967296 = 2 ^ s * (2 ^ (32 - s) * 4294967296):=by
    rw [← Nat.mul_assoc,← Nat.pow_add,show s + (32 - s) = 32 by omega]
  rw [e,Nat.mod_mul_right_div_self,Nat.mul_comm (2 ^ (32 - s)),Nat.mod_mul_right_mod]
theorem ref_Shr_loop (x n:Nat) (hx:blen x≤100000000) (hn:n≤1000000000):∀ (d t:Nat),n / 32 + t + d = max (blen x) (n / 32 + t)→(t = 0∨n / 32 + t≤blen x) →
    Ev (fun k => sconceref03_Shr.l0 k (big x) (n:Int) (dgs 4294967296 t (x / 2 ^ n)) ((n / 32 + t:Nat):Int)) (big (x / 2 ^ n)):=by
  have hdig:∀ t,x / 2 ^ n / 4294967296 ^ t = x / 4294967296 ^ (n / 32 + t) / 2 ^ (n % 32):=by
    intro t
    rw [Nat.div_div_eq_div_mul,Nat.div_div_eq_div_mul,H_pow,H_pow,← Nat.pow_add,← Nat.pow_add]
    congr 2;omega
  have hS:IntKind.u64.wrap (Int.tmod (n:Int) 32) = ((n % 32:Nat):Int):=by rw [Int.tmod_eq_emod_of_nonneg (by omega),wU];omega
  intro d
  induction d with
  | zero =>
    intro t hd ht
    refine Ev.step (fun k => sconceref03_Shr.l0.eq_2 ..) (ev_neg (by rw [big_length];omega) (ev_bind (sp_trim' (x:=x / 2 ^ n) (dgs_dg (by decide) _ _) (by rw [dgs_length];omega) ?_) (ev_const rfl)))
    rw [num_dgs]
    refine Nat.mod_eq_of_lt ?_
    have h0:x / 2 ^ n / 4294967296 ^ t = 0:=by
      rw [hdig,Nat.div_eq_of_lt (Nat.lt_of_lt_of_le (blen_lt x) (Nat.pow_le_pow_right (by decide) (by omega))),Nat.zero_div]
    exact (Nat.div_eq_zero_iff_lt (Nat.pow_pos (by decide))).1 h0
  | succ d ih =>
    intro t hd ht
    have hi:n / 32 + t < blen x:=by omega
    refine Ev.step (fun k => sconceref03_Shr.l0.eq_2 ..) (ev_pos (by rw [big_length];omega) (ev_pos (by omega) ?_))
    have e1:wrap64 (((n / 32 + t:Nat):Int) + 1) = ((n / 32 + (t + 1):Nat):Int):=by rw [w64 (by omega) (by omega)];omega
    rw [e1,hS]
    refine ev_bind0 (sp_digit_big x (n / 32 + (t + 1))) (ev_pos (by omega) (ev_pos (by rw [dgs_length];omega) ?_))
    have hn:=ih (t + 1) (by omega) (by omega)
    rw [dgs_snoc,hdig,← mod_shr _ _ (show n % 32≤32 by omega)] at hn
    rw [rdA,at0_big]
    have e2:x / 4294967296 ^ (n / 32 + (t + 1)) = x / 4294967296 ^ (n / 32 + t) / 4294967296:=by rw [Nat.div_div_eq_div_mul,← Nat.pow_succ];rfl
    rw [e2]
    generalize x / 4294967296 ^ (n / 32 + t) = y at *
    have e3:y % (4294967296 * 4294967296) = y % 4294967296 + 4294967296 * (y / 4294967296 % 4294967296):=Nat.mod_mul
    have hl:=Nat.mod_lt y (show 0 < 4294967296 by decide)
    have hh:=Nat.mod_lt (y / 4294967296) (show 0 < 4294967296 by decide)
    generalize y % 4294967296 = lo at *
    generalize y / 4294967296 % 4294967296 = hi' at *
    have q1:IntKind.u64.wrap (lo:Int) = (lo:Int):=by rw [wU];omega
    have q2:IntKind.u64.wrap (IntKind.u64.wrap (hi':Int) * 4294967296) = ((hi' * 4294967296:Nat):Int):=by simp only [wU];omega
    have q3:Go.bits .or .u64 (lo:Int) ((hi' * 4294967296:Nat):Int) = ((lo + 4294967296 * hi':Nat):Int):=by
      rw [b_or_comm (by omega) (by omega) (by omega) (by omega),b_or_add 32 (by omega) (by omega) (by omega) (by omega) (by simp) (by simp;omega)];omega
    rw [q1,q2,q3,← e3]
    have q4:shr .u64 ((y % (4294967296 * 4294967296):Nat):Int) ((n % 32:Nat):Int) % 4294967296 = ((y % (4294967296 * 4294967296) / 2 ^ (n % 32) % 4294967296:Nat):Int):=by
      unfold shr
      rw [Int.toNat_natCast,show min (n % 32) IntKind.u64.bits = n % 32 from Nat.min_eq_left (by show n % 32≤64;omega)]
      simp
    rw [q4]
    exact hn
theorem sp_ref_Shr {x n:Nat} (hx:blen x≤100000000) (hn:n≤1000000000):Ev (fun k => sconceref03_Shr.f k (big x) (n:Int)) (big (x / 2 ^ n)):=by
  unfold sconceref03_Shr.f
  have e1:wrap64 (Int.tdiv (n:Int) 32) = ((n / 32 + 0:Nat):Int):=by rw [Int.tdiv_eq_ediv_of_nonneg (by omega),w64 (by omega) (by omega)];omega
  rw [e1]
  exact ref_Shr_loop x n hx hn (max (blen x) (n / 32) - n / 32) 0 (by omega) (.inl rfl)
theorem ref_divSmall_loop (a d:Nat) (ha:blen a≤100000000) (hd0:d≠0) (hd:d < 4294967296):∀ (i:Nat) (out:List Int),i≤blen a→out.length = blen a→dg ((4294967296:Nat):Int) out→(∀ t,t < i→at0 out t = 0) →
    num 4294967296 out = 4294967296 ^ i * (a / 4294967296 ^ i / d) →
    Ev (fun k => sconceref03_divSmall.l0 k (big a) (d:Int) out ((a / 4294967296 ^ i % d:Nat):Int) ((i:Int) - 1)) (big (a / d),big (a % d)):=by
  intro i
  induction i with
  | zero =>
    intro out _ hl hdg hz h
    refine Ev.step (fun k => sconceref03_divSmall.l0.eq_2 ..) (ev_neg (by omega) (ev_bind (sp_trim' (x:=a / d) hdg (by omega) (by rw [h];simp)) (ev_bind (sp_Small (w:=a / 4294967296 ^ 0 % d) ?_) (ev_const (by simp)))))
    have:=Nat.mod_lt (a / 4294967296 ^ 0) (Nat.pos_of_ne_zero hd0);omega
  | succ i ih =>
    intro out hi hl hdg hz h
    have e0:((i + 1:Nat):Int) - 1 = (i:Int):=by omega
    have e1:wrap64 ((i:Int) - 1) = (i:Int) - 1:=w64 (by omega) (by omega)
    have hlt:i < out.length:=by omega
    have qd:IntKind.u64.wrap (d:Int) = (d:Int):=by rw [wU];omega
    refine Ev.step (fun k => sconceref03_divSmall.l0.eq_2 ..) ?_
    rw [e0,e1,qd,rdA,at0_big]
    refine ev_pos (by omega) (ev_pos (by omega) (ev_pos (by rw [big_length];omega) (ev_neg (by omega) (ev_pos (by omega) ?_))))
    have hr:=Nat.mod_lt (a / 4294967296 ^ (i + 1)) (Nat.pos_of_ne_zero hd0)
    have ha':=Nat.mod_lt (a / 4294967296 ^ i) (show 0 < 4294967296 by decide)
    have hs:=num_set (B:=4294967296) (((((a / 4294967296 ^ (i + 1) % d) * 4294967296 + a / 4294967296 ^ i % 4294967296) / d % 4294967296:Nat)):Int) hlt
    rw [hz i (by omega),h,Int.toNat_zero,Nat.zero_mul,Nat.add_zero,Int.toNat_natCast] at hs
    have eY:a / 4294967296 ^ (i + 1) = a / 4294967296 ^ i / 4294967296:=by rw [Nat.div_div_eq_div_mul,← Nat.pow_succ]
    have hn:=fun o q1 q2 q3 q4 => ih o (by omega) q1 q2 q3 q4
    clear ih h
    rw [eY] at hs hr ⊢
    generalize a / 4294967296 ^ i = y at *
    have hy:=Nat.div_add_mod y 4294967296
    generalize y / 4294967296 = u at *
    generalize y % 4294967296 = b at *
    have hu:=Nat.div_add_mod u d
    generalize u / d = Q at *
    generalize u % d = r at *
    have hq : y = d * (4294967296 * Q) + (r * 4294967296 + b) := by rw [← hy, ← hu, Nat.mul_add]; have : 4294967296 * (d * Q) = d * (4294967296 * Q) := by ac_rfl
                                                                    omega
    have hq1:y / d = 4294967296 * Q + (r * 4294967296 + b) / d:=by rw [hq,Nat.mul_add_div (Nat.pos_of_ne_zero hd0)]
    have hq2:y % d = (r * 4294967296 + b) % d:=by rw [hq,Nat.mul_add_mod]
    have hb2:(r * 4294967296 + b) / d < 4294967296:=(Nat.div_lt_iff_lt_mul (Nat.pos_of_ne_zero hd0)).2 (by
      have:r * 4294967296 + 4294967296≤d * 4294967296:=by rw [← Nat.succ_mul];exact Nat.mul_le_mul_right _ hr
      rw [Nat.mul_comm 4294967296 d];omega)
    rw [Nat.mod_eq_of_lt hb2] at hs
    have q2:IntKind.u64.wrap ((r:Int) * 4294967296) = ((r * 4294967296:Nat):Int):=by rw [wU];omega
    have q1:IntKind.u64.wrap (b:Int) = (b:Int):=by rw [wU];omega
    have q3:Go.bits .or .u64 ((r * 4294967296:Nat):Int) (b:Int) = ((r * 4294967296 + b:Nat):Int):=by
      rw [b_or_add 32 (by omega) (by omega) (by omega) (by omega) (by simp) (by simp;omega)];omega
    rw [q2,q1,q3,Int.tdiv_eq_ediv_of_nonneg (by omega),Int.tmod_eq_emod_of_nonneg (by omega),Int.toNat_natCast]
    have q4:IntKind.u64.wrap (((r * 4294967296 + b:Nat):Int) / (d:Int)) % 4294967296 = (((r * 4294967296 + b) / d:Nat):Int):=by
      rw [← Int.natCast_ediv,wU];generalize (r * 4294967296 + b) / d = z at *;omega
    have q5:((r * 4294967296 + b:Nat):Int) % (d:Int) = ((y % d:Nat):Int):=by rw [← Int.natCast_emod,hq2]
    rw [q4,q5]
    refine hn _ (by rw [List.length_set];exact hl) (dg_set hdg ⟨by omega,by omega⟩ _) (fun t ht => by rw [at0_set hlt,if_neg (by omega),hz t (by omega)]) ?_
    rw [hs,hq1,Nat.mul_add,Nat.pow_succ]
    have:4294967296 ^ i * 4294967296 * Q = 4294967296 ^ i * (4294967296 * Q):=Nat.mul_assoc ..
    rw [this,Nat.mul_comm ((r * 4294967296 + b) / d)]
theorem sp_ref_divSmall {a d:Nat} (ha:blen a≤100000000) (hd0:d≠0) (hd:d < 4294967296):Ev (fun k => sconceref03_divSmall.f k (big a) (d:Int)) (big (a / d),big (a % d)):=by
  unfold sconceref03_divSmall.f
  rw [big_length]
  refine ev_pos (by omega) (ev_pos (by rw [Int.toNat_natCast];omega) ?_)
  rw [Int.toNat_natCast,w64 (by omega) (by omega)]
  have h0:a / 4294967296 ^ blen a = 0:=Nat.div_eq_of_lt (blen_lt a)
  have:=ref_divSmall_loop a d ha hd0 hd (blen a) (List.replicate (blen a) 0) (Nat.le_refl _) List.length_replicate (fun x hx => by rw [(List.mem_replicate.1 hx).2];decide) (fun t ht => by unfold at0;simp [ht]) (by rw [num_replicate,h0];simp)
  rw [h0,Nat.zero_mod] at this
  exact this
end Go.Proofs.Ytonpekldcnankaa.X
