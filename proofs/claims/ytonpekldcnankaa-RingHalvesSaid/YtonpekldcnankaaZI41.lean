/- Texts of the walk and of the plain laws, laid together by a program: Sp1b, Sp6a, Sp6b, Sp6r, Sp6j. -/
import Derived.Test.YtonpekldcnankaaZI0
import Derived.Test.YtonpekldcnankaaZI1
import Derived.Test.YtonpekldcnankaaZI2
import Derived.Test.YtonpekldcnankaaZI5
import Derived.Test.YtonpekldcnankaaZI6
import Derived.Test.YtonpekldcnankaaZI13
import Derived.Test.YtonpekldcnankaaZI15
import Derived.Test.YtonpekldcnankaaZI16
import Derived.Test.YtonpekldcnankaaZI17
import Derived.Test.YtonpekldcnankaaZI23
import Derived.Test.YtonpekldcnankaaZI24
import Derived.Test.YtonpekldcnankaaZI25
import Derived.Test.YtonpekldcnankaaZI26
import Derived.Test.YtonpekldcnankaaZI32
import Derived.Test.YtonpekldcnankaaZI33
import Derived.Test.YtonpekldcnankaaZI36
import Derived.Test.YtonpekldcnankaaZI40
section
namespace Go.Proofs.Ytonpekldcnankaa.X
open Go.RowKit Go.Proofs.YtonpekldcnankaaW.PrintWords Go.Proofs.YtonpekldcnankaaW.PrintLast Go.Proofs.YtonpekldcnankaaW.PrintMore Go.Proofs.Ytonpekldcnankaa.Ma
set_option linter.unusedVariables false
theorem inv_unique {a x y:Int} (hx0:0≤x) (hx1:x < 18446744073709551616) (hy0:0≤y) (hy1:y < 18446744073709551616) (hx:(18446744073709551616:Int) ∣ a * x - 1) (hy:(18446744073709551616:Int) ∣ a * y - 1):x = y:=by
  obtain ⟨p,hp⟩:=hx
  obtain ⟨q,hq⟩:=hy
  have e:x - y = 18446744073709551616 * (y * p - x * q):=by
    have e1:a * x = 1 + 18446744073709551616 * p:=by omega
    have e2:a * y = 1 + 18446744073709551616 * q:=by omega
    have e3:y * (a * x) = x * (a * y):=by rw [Int.mul_left_comm,Int.mul_left_comm x a y,Int.mul_comm y x]
    rw [e1,e2] at e3
    have e4:y * (1 + 18446744073709551616 * p) = y + 18446744073709551616 * (y * p):=by rw [Int.mul_add,Int.mul_one,Int.mul_left_comm]
    have e5:x * (1 + 18446744073709551616 * q) = x + 18446744073709551616 * (x * q):=by rw [Int.mul_add,Int.mul_one,Int.mul_left_comm]
    rw [e4,e5] at e3
    rw [Int.mul_sub];omega
  omega
theorem newton {a x:Int} {m:Nat} (hm:2 * m≤64) (h:(2:Int) ^ m ∣ a * x - 1):(2:Int) ^ (2 * m) ∣ a * (IntKind.u64.wrap (x * (IntKind.u64.wrap (2 - (IntKind.u64.wrap (a * x)))))) - 1:=by
  simp only [wU]
  have hM:(2:Int) ^ (2 * m) ∣ 18446744073709551616:=⟨2 ^ (64 - 2 * m),by rw [← Int.pow_add,show 2 * m + (64 - 2 * m) = 64 by omega];rfl⟩
  obtain ⟨e,he⟩:=h
  have f1:a * x % 18446744073709551616 = a * x - 18446744073709551616 * (a * x / 18446744073709551616):=by omega
  generalize a * x / 18446744073709551616 = u at *
  rw [f1]
  generalize hs:2 - (a * x - 18446744073709551616 * u) = s at *
  have f2:s % 18446744073709551616 = s - 18446744073709551616 * (s / 18446744073709551616):=by omega
  generalize s / 18446744073709551616 = v at *
  rw [f2]
  generalize ht:x * (s - 18446744073709551616 * v) = t at *
  have f3:t % 18446744073709551616 = t - 18446744073709551616 * (t / 18446744073709551616):=by omega
  generalize t / 18446744073709551616 = q at *
  rw [f3]
  have g:a * (t - 18446744073709551616 * q) - 1 = -((a * x - 1) * (a * x - 1)) + 18446744073709551616 * (a * x * u - a * x * v - a * q):=by
    rw [← ht,← hs]
    simp only [Int.mul_sub,Int.sub_mul,Int.mul_one,Int.one_mul]
    have k1:a * (x * 2) = 2 * (a * x):=by rw [← Int.mul_assoc,Int.mul_comm]
    have k2:a * (x * (a * x)) = a * x * (a * x):=by rw [← Int.mul_assoc]
    have k3:a * (x * (18446744073709551616 * u)) = 18446744073709551616 * (a * x * u):=by rw [← Int.mul_assoc,Int.mul_left_comm]
    have k4:a * (x * (18446744073709551616 * v)) = 18446744073709551616 * (a * x * v):=by rw [← Int.mul_assoc,Int.mul_left_comm]
    have k5:a * (18446744073709551616 * q) = 18446744073709551616 * (a * q):=by rw [Int.mul_left_comm]
    rw [k1,k2,k3,k4,k5]
    omega
  rw [g,he]
  refine Int.dvd_add ?_ (Int.dvd_trans hM (Int.dvd_mul_right _ _))
  refine Int.dvd_neg.2 ⟨e * e,?_⟩
  rw [show 2 * m = m + m by omega,Int.pow_add]
  rw [Int.mul_assoc,Int.mul_left_comm e,← Int.mul_assoc]
theorem newton_start {a:Int} (h0:0≤a) (h1:a < 18446744073709551616) (ho:a % 2 = 1):(2:Int) ^ 5 ∣ a * (Go.bits .xor .u64 (IntKind.u64.wrap (a * 3)) 2) - 1:=by
  rw [wU]
  have hy0:0≤a * 3 % 18446744073709551616:=by omega
  have hy1:a * 3 % 18446744073709551616 < 18446744073709551616:=by omega
  have hx:=b_xor hy0 hy1 (show (0:Int)≤2 by decide) (by decide)
  have hm:((a * 3 % 18446744073709551616).toNat ^^^ (2:Int).toNat) % 2 ^ 5 = ((a * 3 % 18446744073709551616).toNat % 2 ^ 5) ^^^ (2 % 2 ^ 5):=Nat.xor_mod_two_pow
  have hy:(a * 3 % 18446744073709551616).toNat % 2 ^ 5 = (a % 32 * 3 % 32).toNat:=by omega
  rw [hy] at hm
  generalize (a * 3 % 18446744073709551616).toNat ^^^ (2:Int).toNat = z at *
  rw [hx]
  have hz:((z:Int) % 32) = ((((a % 32 * 3 % 32).toNat ^^^ (2 % 2 ^ 5):Nat)):Int):=by rw [← hm];simp
  apply Int.dvd_of_emod_eq_zero
  have e:(a * (z:Int) - 1) % 2 ^ 5 = ((a % 32) * ((z:Int) % 32) - 1) % 32:=by
    rw [show (2:Int) ^ 5 = 32 by rfl,Int.sub_emod,Int.mul_emod,← Int.sub_emod]
  rw [e,hz]
  have:a % 32 = 1∨a % 32 = 3∨a % 32 = 5∨a % 32 = 7∨a % 32 = 9∨a % 32 = 11∨a % 32 = 13∨a % 32 = 15∨a % 32 = 17∨a % 32 = 19∨a % 32 = 21∨a % 32 = 23∨a % 32 = 25∨a % 32 = 27∨a % 32 = 29∨a % 32 = 31:=by omega
  rcases this with h | h | h | h | h | h | h | h | h | h | h | h | h | h | h | h <;> rw [h] <;> decide
def Inv64 (a x:Int):Prop:=wd x = true∧(a % 2 = 1→(18446744073709551616:Int) ∣ a * x - 1)∧(a % 2 = 0→x = 0)
theorem Inv64.uniq {a x y:Int} (hx:Inv64 a x) (hy:Inv64 a y):x = y:=by
  have h1:=wd_iff.1 hx.1
  have h2:=wd_iff.1 hy.1
  by_cases h:a % 2 = 1
  · exact inv_unique h1.1 h1.2 h2.1 h2.2 (hx.2.1 h) (hy.2.1 h)
  · rw [hx.2.2 (by omega),hy.2.2 (by omega)]
theorem sp_word_Inverse {a:Int} (ha:wd a = true):∃ x,Inv64 a x∧Ev (fun k => word_Inverse.f k a) x:=by
  have ha':=wd_iff.1 ha
  have hm:=sp_word_Mask ha
  have hs:=fun ho => newton_start ha'.1 ha'.2 ho
  have hn:∀ {x:Int} {m:Nat},2 * m≤64→(2:Int) ^ m ∣ a * x - 1→(2:Int) ^ (2 * m) ∣ a * (IntKind.u64.wrap (x * (IntKind.u64.wrap (2 - (IntKind.u64.wrap (a * x)))))) - 1:=fun h k => newton h k
  have hw:∀ y,0≤IntKind.u64.wrap y∧IntKind.u64.wrap y < 18446744073709551616:=fun y => by rw [wU];omega
  unfold word_Inverse.f
  generalize Go.bits .xor .u64 (IntKind.u64.wrap (a * 3)) 2 = x0 at *
  have h1:=fun ho => hn (m:=5) (by decide) (hs ho)
  generalize hx1:IntKind.u64.wrap (x0 * (IntKind.u64.wrap (2 - (IntKind.u64.wrap (a * x0))))) = x1 at *
  have h2:=fun ho => hn (m:=10) (by decide) (h1 ho)
  generalize hx2:IntKind.u64.wrap (x1 * (IntKind.u64.wrap (2 - (IntKind.u64.wrap (a * x1))))) = x2 at *
  have h3:=fun ho => hn (m:=20) (by decide) (h2 ho)
  generalize hx3:IntKind.u64.wrap (x2 * (IntKind.u64.wrap (2 - (IntKind.u64.wrap (a * x2))))) = x3 at *
  have h4:a % 2 = 1→(2:Int) ^ 64 ∣ a * (IntKind.u64.wrap (x3 * (IntKind.u64.wrap (2 - (IntKind.u64.wrap (a * x3)))))) - 1:=fun ho => hn (m:=32) (by decide) (Int.dvd_trans ⟨2 ^ 8,by decide⟩ (h3 ho))
  have hr:=hw (x3 * (IntKind.u64.wrap (2 - (IntKind.u64.wrap (a * x3)))))
  generalize hx4:IntKind.u64.wrap (x3 * (IntKind.u64.wrap (2 - (IntKind.u64.wrap (a * x3))))) = x4 at *
  refine ⟨if a % 2 = 1 then x4 else 0,⟨?_,?_,?_⟩,?_⟩
  · split
    · exact wd_iff.2 hr
    · rfl
  · intro ho;rw [if_pos ho];exact h4 ho
  · intro ho;rw [if_neg (by omega)]
  · refine Ev.step (fun k => by rw [word_Inverse.l0]) (ev_pos (by first | decide | (unfold wrap64;omega)) ?_)
    rw [hx1]
    refine Ev.step (fun k => by rw [word_Inverse.l0]) (ev_pos (by first | decide | (unfold wrap64;omega)) ?_)
    rw [hx2]
    refine Ev.step (fun k => by rw [word_Inverse.l0]) (ev_pos (by first | decide | (unfold wrap64;omega)) ?_)
    rw [hx3]
    refine Ev.step (fun k => by rw [word_Inverse.l0]) (ev_pos (by first | decide | (unfold wrap64;omega)) ?_)
    rw [hx4]
    refine Ev.step (fun k => by rw [word_Inverse.l0]) (ev_neg (by first | decide | (unfold wrap64;omega)) ?_)
    refine ev_bind0 hm (ev_const ?_)
    congr 1
    split
    · exact b_and_all hr.1 hr.2
    · exact b_and_0 hr.1 hr.2
theorem bit_of {y:Int} {i:Nat} (hi:i < 64):y % 18446744073709551616 / 2 ^ i % 2 = y / 2 ^ i % 2:=by
  have e:(18446744073709551616:Int) = 2 ^ i * (2 * 2 ^ (63 - i)):=by
    have h:(2:Int) * 2 ^ (63 - i) = 2 ^ (64 - i):=by rw [show 64 - i = (63 - i) + 1 by omega,Int.pow_succ,Int.mul_comm]
    rw [h,← Int.pow_add,show i + (64 - i) = 64 by omega];rfl
  have f:y % 18446744073709551616 = y + 2 ^ i * (-(2 * 2 ^ (63 - i)) * (y / 18446744073709551616)):=by
    have h1:=Int.emod_add_mul_ediv y 18446744073709551616
    have h2:(2:Int) ^ i * (-(2 * 2 ^ (63 - i)) * (y / 18446744073709551616)) = - (18446744073709551616 * (y / 18446744073709551616)):=by
      rw [← Int.mul_assoc,Int.mul_neg,← e,Int.neg_mul]
    rw [h2];omega
  rw [f,Int.add_mul_ediv_left _ _ (by have:(0:Int) < 2 ^ i:=Int.pow_pos (by decide);omega)]
  have g:-(2 * 2 ^ (63 - i)) * (y / 18446744073709551616) = 2 * (-(2 ^ (63 - i)) * (y / 18446744073709551616)):=by
    rw [← Int.mul_neg,Int.mul_assoc]
  rw [g];omega
theorem ref_Inverse_loop {a:Int} (ha:wd a = true) (ho:a % 2 = 1):∀ (n i:Nat),i + n = 64→∀ x:Int,0≤x→x < 2 ^ i→(2:Int) ^ i ∣ a * x - 1 →
    ∃ r,wd r = true∧(18446744073709551616:Int) ∣ a * r - 1∧Ev (fun k => sconceref01_Inverse.l0 k a x i) r:=by
  intro n
  induction n with
  | zero =>
    intro i hi x h0 h1 hd
    obtain rfl:i = 64:=by omega
    exact ⟨x,wd_iff.2 ⟨h0,h1⟩,hd,Ev.step (fun k => by rw [sconceref01_Inverse.l0]) (ev_neg (by decide) (ev_const rfl))⟩
  | succ n ih =>
    intro i hi x h0 h1 hd
    have hp:(0:Int) < 2 ^ i:=Int.pow_pos (by decide)
    have hp2:(2:Int) ^ (i + 1) = 2 ^ i * 2:=Int.pow_succ 2 i
    have hpm:(2:Int) ^ (i + 1)≤18446744073709551616:=by
      have h:2 ^ (i + 1)≤2 ^ 64:=Nat.pow_le_pow_right (by decide) (by omega)
      have e:((2 ^ (i + 1):Nat):Int) = 2 ^ (i + 1):=by simp
      omega
    have e1:IntKind.u64.wrap (i:Int) = i:=by rw [wU];omega
    have e2:wrap64 ((i:Int) + 1) = ((i + 1:Nat):Int):=by rw [w64 (by omega) (by omega)];omega
    have e3:∀ y,shr .u64 y (i:Int) = y / 2 ^ i:=fun y => by
      unfold shr;rw [Int.toNat_natCast,Nat.min_eq_left (by simp [IntKind.bits];omega)]
    have e4:shl .u64 1 (i:Int) = 2 ^ i:=by
      unfold shl;rw [Int.toNat_natCast,Nat.min_eq_left (by simp [IntKind.bits];omega),wU,Int.one_mul]
      exact Int.emod_eq_of_lt (by omega) (by omega)
    have hw0:0≤a * x % 18446744073709551616:=by omega
    have hq0:0≤a * x % 18446744073709551616 / 2 ^ i:=Int.ediv_nonneg hw0 (by omega)
    have hq1:a * x % 18446744073709551616 / 2 ^ i < 18446744073709551616:=Int.lt_of_le_of_lt (Int.ediv_le_self _ hw0) (by omega)
    obtain ⟨e,he⟩:=hd
    have hbit:a * x / 2 ^ i = e + (if i = 0 then 1 else 0):=by
      rw [show a * x = 1 + 2 ^ i * e by omega,Int.add_mul_ediv_left _ _ (by omega)]
      split
      · rename_i hi0;subst hi0;simp;omega
      · rename_i hi0
        have:(1:Int) < 2 ^ i:=by
          obtain ⟨j,rfl⟩:∃ j,i = j + 1:=⟨i - 1,by omega⟩
          have:(0:Int) < 2 ^ j:=Int.pow_pos (by decide)
          rw [Int.pow_succ];omega
        rw [Int.ediv_eq_zero_of_lt (by decide) this];omega
    have hor:Go.bits .or .u64 x (2 ^ i) = x + 2 ^ i:=by
      rw [← b_or_add (a:=2 ^ i) (b:=x) i (by omega) (by omega) h0 (by omega) (Int.emod_self) h1 |>.trans (Int.add_comm _ _)]
      rw [u64_or _ _ h0 (by omega) (by omega) (by omega),u64_or _ _ (by omega) (by omega) h0 (by omega),Nat.or_comm]
    have hone:sconceref01_One.f ((i:Int) == 0) = some (if i = 0 then 1 else 0):=by
      rw [sp_ref_One];congr 1;simp only [beq_iff_eq];split <;> split <;> omega
    by_cases hev:e % 2 = 0
    · obtain ⟨r,hr1,hr2,hr3⟩:=ih (i + 1) (by omega) x h0 (by omega) ⟨e / 2,by rw [he,hp2,Int.mul_assoc];congr 1;omega⟩
      refine ⟨r,hr1,hr2,Ev.step (fun k => by rw [sconceref01_Inverse.l0,e1,e2,e3,e4,wU,b_and1 hq0 hq1,bit_of (by omega),hbit]) ?_⟩
      refine ev_pos (by omega) (ev_pos (by omega) (ev_bind0 hone ?_))
      exact ev_pos (by split <;> omega) hr3
    · obtain ⟨r,hr1,hr2,hr3⟩:=ih (i + 1) (by omega) (x + 2 ^ i) (by omega) (by omega) ⟨(e + a) / 2,by
        rw [Int.mul_add,hp2,Int.mul_assoc,show 2 * ((e + a) / 2) = e + a by omega,Int.mul_add,Int.mul_comm a (2 ^ i)];omega⟩
      refine ⟨r,hr1,hr2,Ev.step (fun k => by rw [sconceref01_Inverse.l0,e1,e2,e3,e4,wU,b_and1 hq0 hq1,bit_of (by omega),hbit,hor]) ?_⟩
      refine ev_pos (by omega) (ev_pos (by omega) (ev_bind0 hone ?_))
      exact ev_neg (by split <;> omega) hr3
theorem sp_ref_Inverse {a:Int} (ha:wd a = true):∃ x,Inv64 a x∧Ev (fun k => sconceref01_Inverse.f k a) x:=by
  have ha':=wd_iff.1 ha
  have ht:Int.tmod a 2 = a % 2:=Int.tmod_eq_emod_of_nonneg ha'.1
  unfold sconceref01_Inverse.f
  rw [ht]
  by_cases ho:a % 2 = 1
  · obtain ⟨r,h1,h2,h3⟩:=ref_Inverse_loop ha ho 64 0 (by omega) 0 (by omega) (by decide) (by simp)
    exact ⟨r,⟨h1,fun _ => h2,fun h => by omega⟩,ev_neg (by omega) h3⟩
  · exact ⟨0,⟨rfl,fun h => absurd h ho,fun _ => rfl⟩,ev_pos (by omega) (ev_const rfl)⟩
end Go.Proofs.Ytonpekldcnankaa.X
end
section
namespace Go.Proofs.Ytonpekldcnankaa.X
open Go.RowKit Go.Proofs.YtonpekldcnankaaW.PrintWords Go.Proofs.YtonpekldcnankaaW.PrintLast Go.Proofs.Ytonpekldcnankaa.Ma
set_option linter.unusedVariables false
set_option linter.unusedSimpArgs false
def IsK (M:Nat) (K:Int):Prop:=∃ x:Int,Inv64 ((M % 18446744073709551616:Nat):Int) x∧K = IntKind.u64.wrap (-x)
theorem IsK.uniq {M:Nat} {K L:Int} (h:IsK M K) (g:IsK M L):K = L:=by
  obtain ⟨x,hx,rfl⟩:=h
  obtain ⟨y,hy,rfl⟩:=g
  rw [hx.uniq hy]
def SetR (M:Nat) (R:List Int × Int × List Int × Int):Prop :=
  (130 < wlen M∧R = ([],0,[],2))∨(wlen M≤130∧M≤1∧R = ([],0,[],1))∨(wlen M≤130∧1 < M∧M % 2 = 0∧R = ([],0,[],60)) ∨
  (wlen M≤130∧1 < M∧M % 2 = 1∧∃ K,IsK M K∧R = (wds (wlen M) M,K,wds (wlen M) (18446744073709551616 ^ (2 * wlen M) % M),0))
theorem SetR.uniq {M:Nat} {R S:List Int × Int × List Int × Int} (h:SetR M R) (g:SetR M S):R = S:=by
  rcases h with ⟨h1,rfl⟩ | ⟨h1,h2,rfl⟩ | ⟨h1,h2,h3,rfl⟩ | ⟨h1,h2,h3,K,hK,rfl⟩ <;> rcases g with ⟨g1,rfl⟩ | ⟨g1,g2,rfl⟩ | ⟨g1,g2,g3,rfl⟩ | ⟨g1,g2,g3,L,hL,rfl⟩ <;> first | rfl | (exfalso;omega) | (rw [hK.uniq hL])
theorem at0_first {l:List Int} (h:Wd l):at0 l 0 = ((nW l % 18446744073709551616:Nat):Int):=by
  have:=at0_num (B:=18446744073709551616) (by decide) h 0
  rw [Nat.pow_zero,Nat.div_one] at this
  exact this
theorem wd_mod (M:Nat):wd ((M % 18446744073709551616:Nat):Int) = true:=wd_iff.2 ⟨by omega,by omega⟩
theorem sp_mont_Setup {l:List Int} (h:Wd l) (hl:l.length≤1000):∃ R,SetR (nW l) R∧Ev (fun k => mont_Setup.f k l) R:=by
  have hc:l.all wd = true∧l.length≤1000:=⟨wd_all.2 h,hl⟩
  unfold mont_Setup.f
  simp only [if_pos hc]
  by_cases h1:130 < wlen (nW l)
  · exact ⟨_,.inl ⟨h1,rfl⟩,ev_pos h1 (ev_const rfl)⟩
  · by_cases h2:nW l≤1
    · exact ⟨_,.inr (.inl ⟨by omega,h2,rfl⟩),ev_neg h1 (ev_pos h2 (ev_const rfl))⟩
    · by_cases h3:nW l % 2 = 0
      · exact ⟨_,.inr (.inr (.inl ⟨by omega,by omega,h3,rfl⟩)),ev_neg h1 (ev_neg h2 (ev_pos h3 (ev_const rfl)))⟩
      · obtain ⟨x,hx,he⟩:=sp_word_Inverse (wd_mod (nW l))
        rw [← at0_first h] at he
        exact ⟨_,.inr (.inr (.inr ⟨by omega,by omega,by omega,_,⟨x,hx,rfl⟩,rfl⟩)),ev_neg h1 (ev_neg h2 (ev_neg h3 (ev_bind he (ev_const rfl))))⟩
theorem rd_big0 {M:Nat}:rd (big M) 0 = ((M % 4294967296:Nat):Int):=by
  have:=rdA (big M) 0
  rw [at0_big,Nat.pow_zero,Nat.div_one] at this
  exact this
theorem blen_wlen (M:Nat):blen M≤2 * wlen M:=blen_le (by rw [← W_pow];exact wlen_lt M)
theorem ref6_j {l:List Int} (h:Wd l) (hl:l.length≤1000):∃ R,SetR (nW l) R∧Ev (fun k => sconceref06_Setup.j1 k l ((wlen (nW l):Nat):Int)) R:=by
  have hwl:=wlen_nW h
  have hb:=blen_wlen (nW l)
  have htk:nW (l.take (wlen (nW l))) = nW l:=by
    show num _ _ = _
    rw [num_take h]
    exact Nat.mod_eq_of_lt (wlen_lt _)
  have htw:Wd (l.take (wlen (nW l))):=fun x hx => h x (List.mem_of_mem_take hx)
  have htl:(l.take (wlen (nW l))).length≤1000:=by rw [List.length_take];omega
  by_cases h1:130 < wlen (nW l)
  · exact ⟨_,.inl ⟨h1,rfl⟩,Ev.step (fun k => sconceref06_Setup.j1.eq_2 ..) (ev_pos (by omega) (ev_const rfl))⟩
  · have hO:=sp_OfW htw (by omega)
    rw [htk] at hO
    have hC:=sp_Cmp (x:=nW l) (y:=2) (by omega)
    have hS:=sp_Small (w:=2) (by decide)
    by_cases h2:nW l≤1
    · refine ⟨_,.inr (.inl ⟨by omega,h2,rfl⟩),Ev.step (fun k => sconceref06_Setup.j1.eq_2 ..) (ev_neg (by omega) (ev_pos (by omega) (ev_pos (by omega) ?_)))⟩
      rw [Int.toNat_natCast]
      refine ev_bind hO (ev_bind hS (ev_bind hC (ev_pos ?_ (ev_const rfl))))
      unfold cmpI
      rw [if_pos (by omega)]
      decide
    · have hcm:¬ (cmpI (nW l) 2 < 0):=by
        unfold cmpI
        rw [if_neg (by omega)]
        split <;> decide
      have hbp:=blen_pos (x:=nW l) (by omega)
      have hmod:Int.tmod (rd (big (nW l)) 0) 2 = ((nW l % 2:Nat):Int):=by
        rw [rd_big0,Int.tmod_eq_emod_of_nonneg (by omega)]
        omega
      by_cases h3:nW l % 2 = 0
      · refine ⟨_,.inr (.inr (.inl ⟨by omega,by omega,h3,rfl⟩)),Ev.step (fun k => sconceref06_Setup.j1.eq_2 ..) (ev_neg (by omega) (ev_pos (by omega) (ev_pos (by omega) ?_)))⟩
        rw [Int.toNat_natCast]
        refine ev_bind hO (ev_bind hS (ev_bind hC (ev_neg hcm (ev_pos (by rw [big_length];omega) (ev_pos (by rw [hmod,h3];rfl) (ev_const rfl))))))
      · obtain ⟨x,hx,he⟩:=sp_ref_Inverse (wd_mod (nW l))
        have hL:=sp_Least (x:=nW l) (by omega)
        have hwp:=wlen_pos (x:=nW l) (by omega)
        rw [show max (wlen (nW l)) 1 = wlen (nW l) by omega] at hL
        have hrd:rd (wds (wlen (nW l)) (nW l)) 0 = ((nW l % 18446744073709551616:Nat):Int):=by
          have:=rdA (wds (wlen (nW l)) (nW l)) 0
          rw [at0_dgs (nW l) hwp,Nat.pow_zero,Nat.div_one] at this
          exact this
        have e1:wrap64 (128 * ((wlen (nW l):Nat):Int)) = ((128 * wlen (nW l):Nat):Int):=by rw [w64 (by omega) (by omega)];omega
        have hSh:=sp_Shl (x:=1) (n:=128 * wlen (nW l)) (by decide) (by omega)
        rw [Nat.one_mul] at hSh
        have hpw:(2:Nat) ^ (128 * wlen (nW l)) = 18446744073709551616 ^ (2 * wlen (nW l)):=by
          rw [show 128 * wlen (nW l) = 64 * (2 * wlen (nW l)) by omega,Nat.pow_mul]
        rw [hpw] at hSh
        have hbw:blen (18446744073709551616 ^ (2 * wlen (nW l)))≤1000:=by have:=blen_Wpow (2 * wlen (nW l));omega
        have hM:sconceref03_Mod.f (big (18446744073709551616 ^ (2 * wlen (nW l)))) (big (nW l)) = some (big (18446744073709551616 ^ (2 * wlen (nW l)) % nW l)):=by
          unfold sconceref03_Mod.f
          rw [sp_ref_DivMod (by omega) (by omega) (by omega)]
          rfl
        have hN:=sp_Nat (x:=18446744073709551616 ^ (2 * wlen (nW l)) % nW l) (n:=((wlen (nW l):Nat):Int)) (by omega)
        rw [Int.toNat_natCast] at hN
        refine ⟨_,.inr (.inr (.inr ⟨by omega,by omega,by omega,_,⟨x,hx,rfl⟩,rfl⟩)),Ev.step (fun k => sconceref06_Setup.j1.eq_2 ..) (ev_neg (by omega) (ev_pos (by omega) (ev_pos (by omega) ?_)))⟩
        rw [Int.toNat_natCast]
        refine ev_bind hO (ev_bind hS (ev_bind hC (ev_neg hcm (ev_pos (by rw [big_length];omega) (ev_neg (by rw [hmod];omega) (ev_bind hL (ev_pos (by rw [dgs_length];omega) ?_)))))))
        rw [hrd,e1]
        exact ev_bind he (ev_bind (sp_Small (w:=1) (by decide)) (ev_bind hSh (ev_bind0 hM (ev_bind hN (ev_const rfl)))))
theorem ref6_loop {l:List Int} (h:Wd l) (hl:l.length≤1000):∀ n:Nat,n≤l.length→nW l < 18446744073709551616 ^ n→∃ R,SetR (nW l) R∧Ev (fun k => sconceref06_Setup.l0 k l (n:Int)) R:=by
  intro n
  induction n with
  | zero =>
    intro _ hM
    obtain ⟨R,h1,h2⟩:=ref6_j h hl
    have hd:=st_done h hM (.inl rfl)
    rw [← hd] at h2
    exact ⟨R,h1,Ev.step (fun k => sconceref06_Setup.l0.eq_2 ..) (ev_neg (by omega) h2)⟩
  | succ n ih =>
    intro hn hM
    have e1:wrap64 (((n + 1:Nat):Int) - 1) = (n:Int):=by rw [w64 (by omega) (by omega)];omega
    by_cases hz:at0 l n = 0
    · obtain ⟨R,h1,h2⟩:=ih (by omega) (by have:=st_less h (n:=n + 1) (by omega) hM (by rw [Nat.add_sub_cancel];exact hz);rw [Nat.add_sub_cancel] at this;exact this)
      refine ⟨R,h1,Ev.step (fun k => sconceref06_Setup.l0.eq_2 ..) (ev_pos (by omega) ?_)⟩
      rw [e1,rdA]
      exact ev_pos (by omega) (ev_pos (by omega) (ev_pos hz h2))
    · obtain ⟨R,h1,h2⟩:=ref6_j h hl
      have hd:=st_done h hM (.inr (by rw [Nat.add_sub_cancel];exact hz))
      rw [← hd] at h2
      refine ⟨R,h1,Ev.step (fun k => sconceref06_Setup.l0.eq_2 ..) (ev_pos (by omega) ?_)⟩
      rw [e1,rdA]
      exact ev_pos (by omega) (ev_pos (by omega) (ev_neg hz h2))
theorem sp_ref6_Setup {l:List Int} (h:Wd l) (hl:l.length≤1000):∃ R,SetR (nW l) R∧Ev (fun k => sconceref06_Setup.f k l) R:=ref6_loop h hl l.length (Nat.le_refl _) (nW_lt h)
theorem SetR.len {M:Nat} {R:List Int × Int × List Int × Int} (h:SetR M R):R.1.length≤130∧R.2.2.1.length≤130:=by
  rcases h with ⟨h1,rfl⟩ | ⟨h1,h2,rfl⟩ | ⟨h1,h2,h3,rfl⟩ | ⟨h1,h2,h3,K,hK,rfl⟩
  · simp
  · simp
  · simp
  · simp only [dgs_length]
    exact ⟨h1,h1⟩
end Go.Proofs.Ytonpekldcnankaa.X
end
section
namespace Go.Proofs.Ytonpekldcnankaa.X
open Go.RowKit Go.Proofs.YtonpekldcnankaaW.PrintWords Go.Proofs.YtonpekldcnankaaW.PrintLast Go.Proofs.Ytonpekldcnankaa.Ma
set_option linter.unusedVariables false
set_option linter.unusedSimpArgs false
theorem slices_Equal_loop (a b:List Int) (hn:a.length≤1000000000000) (hl:a.length = b.length):∀ (d i:Nat),i + d = a.length→(∀ j,j < i→at0 a j = at0 b j) →
    Ev (fun k => api_Nat_uint64_111.l0 k a b (a.length:Int) (i:Int)) (decide (a = b)):=by
  intro d
  induction d with
  | zero =>
    intro i hi h
    refine Ev.step (fun k => by rw [api_Nat_uint64_111.l0]) (ev_neg (by omega) (ev_const ?_))
    have:a = b:=ext_at0 hl (fun j hj => h j (by omega))
    simp [this]
  | succ d ih =>
    intro i hi h
    refine Ev.step (fun k => by rw [api_Nat_uint64_111.l0,w64_succ (by omega),rdA,rdA]) ?_
    refine ev_pos (by omega) (ev_pos (by omega) (ev_pos (by omega) (ev_pos (by omega) ?_)))
    by_cases he:at0 a i = at0 b i
    · exact ev_pos he (ih (i + 1) (by omega) (fun j hj => by
        by_cases e:j = i
        · subst e;exact he
        · exact h j (by omega)))
    · refine ev_neg he (ev_const ?_)
      have:¬ a = b:=fun e => he (by rw [e])
      simp [this]
theorem sp_slices_Equal {a b:List Int} (hn:a.length≤1000000000000):Ev (fun k => api_Nat_uint64_111.f k a b) (decide (a = b)):=by
  unfold api_Nat_uint64_111.f
  by_cases h:a.length = b.length
  · exact ev_pos (by omega) (slices_Equal_loop a b hn h a.length 0 (by omega) (fun j hj => absurd hj (by omega)))
  · refine ev_neg (by omega) (ev_const ?_)
    have:¬ a = b:=fun e => h (by rw [e])
    simp [this]
def chkB (R:List Int × Int × List Int × Int) (m:List Int) (K:Int) (rr:List Int):Bool:=if R.2.2.2 = 0 then (if R.1 = m then (if R.2.1 = K then decide (R.2.2.1 = rr) else false) else false) else false
theorem sp_mont_Check {m rr:List Int} {K:Int} (h:Wd m) (hl:m.length≤1000):∃ R,SetR (nW m) R∧Ev (fun k => mont_Check.f k m K rr) (chkB R m K rr):=by
  obtain ⟨R,h1,h2⟩:=sp_mont_Setup h hl
  have hn:=h1.len
  refine ⟨R,h1,?_⟩
  unfold mont_Check.f chkB
  refine ev_bind h2 ?_
  by_cases e1:R.2.2.2 = 0
  · rw [if_pos e1]
    refine ev_pos e1 (ev_bind (sp_slices_Equal (by omega)) ?_)
    by_cases e2:R.1 = m
    · rw [if_pos e2]
      refine ev_pos (decide_eq_true e2) ?_
      by_cases e3:R.2.1 = K
      · rw [if_pos e3]
        exact ev_pos e3 (ev_bind (sp_slices_Equal (by omega)) (ev_const rfl))
      · rw [if_neg e3]
        exact ev_neg e3 (ev_const rfl)
    · rw [if_neg e2]
      exact ev_neg (by rw [decide_eq_false e2];decide) (ev_const rfl)
  · rw [if_neg e1]
    exact ev_neg e1 (ev_const rfl)
theorem sp_ref6_Check {m rr:List Int} {K:Int} (h:Wd m) (hl:m.length≤1000):∃ R,SetR (nW m) R∧Ev (fun k => sconceref06_Check.f k m K rr) (chkB R m K rr):=by
  obtain ⟨R,h1,h2⟩:=sp_ref6_Setup h hl
  have hn:=h1.len
  refine ⟨R,h1,?_⟩
  unfold sconceref06_Check.f chkB
  refine ev_bind h2 ?_
  by_cases e1:R.2.2.2 = 0
  · rw [if_pos e1]
    refine ev_pos e1 (ev_bind (sp_Same (by omega)) ?_)
    by_cases e2:R.1 = m
    · rw [if_pos e2]
      refine ev_pos (decide_eq_true e2) ?_
      by_cases e3:R.2.1 = K
      · rw [if_pos e3]
        exact ev_pos e3 (ev_bind (sp_Same (by omega)) (ev_const rfl))
      · rw [if_neg e3]
        exact ev_neg e3 (ev_const rfl)
    · rw [if_neg e2]
      exact ev_neg (by rw [decide_eq_false e2];decide) (ev_const rfl)
  · rw [if_neg e1]
    exact ev_neg e1 (ev_const rfl)
end Go.Proofs.Ytonpekldcnankaa.X
end
section
namespace Go.Proofs.Ytonpekldcnankaa.X
open Go.RowKit Go.Proofs.YtonpekldcnankaaW.PrintWords Go.Proofs.YtonpekldcnankaaW.PrintLast Go.Proofs.Ytonpekldcnankaa.Ma
set_option linter.unusedVariables false
set_option linter.unusedSimpArgs false
def memB (m r:List Int):Bool:=decide (r.length = m.length) && decide (nW r < nW m)
def IsMod (m:List Int) (K:Int) (rr:List Int):Prop:=Wd m∧wlen (nW m)≤130∧1 < nW m∧nW m % 2 = 1∧IsK (nW m) K∧m = wds (wlen (nW m)) (nW m)∧rr = wds (wlen (nW m)) (18446744073709551616 ^ (2 * wlen (nW m)) % nW m)
theorem IsMod.len {m rr:List Int} {K:Int} (h:IsMod m K rr):m.length = wlen (nW m):=by
  have:=h.2.2.2.2.2.1
  conv => lhs;rw [this]
  exact dgs_length _ _ _
theorem IsMod.of {M:Nat} {R:List Int × Int × List Int × Int} (h:SetR M R) (he:R.2.2.2 = 0):IsMod R.1 R.2.1 R.2.2.1∧nW R.1 = M:=by
  rcases h with ⟨_,rfl⟩ | ⟨_,_,rfl⟩ | ⟨_,_,_,rfl⟩ | ⟨h1,h2,h3,K,hK,rfl⟩
  · exact absurd he (by decide)
  · exact absurd he (by decide)
  · exact absurd he (by decide)
  · have e:nW (wds (wlen M) M) = M:=nW_wds (wlen_lt M)
    refine ⟨⟨wds_Wd _ _,?_⟩,e⟩
    simp only [e]
    exact ⟨h1,h2,h3,hK,trivial,trivial⟩
theorem IsMod.rr {m rr:List Int} {K:Int} (h:IsMod m K rr):Wd rr∧memB m rr = true∧nW rr = 18446744073709551616 ^ (2 * m.length) % nW m:=by
  have hl:=h.len
  have h3:=h.2.2.1
  have e:=h.2.2.2.2.2.2
  rw [← hl] at e
  have hlt:18446744073709551616 ^ (2 * m.length) % nW m < nW m:=Nat.mod_lt _ (by omega)
  have hn:nW rr = 18446744073709551616 ^ (2 * m.length) % nW m:=by
    rw [e]
    exact nW_wds (Nat.lt_trans hlt (nW_lt h.1))
  refine ⟨by rw [e];exact wds_Wd _ _,?_,hn⟩
  unfold memB
  rw [hn,decide_eq_true hlt,e,dgs_length,decide_eq_true rfl]
  rfl
end Go.Proofs.Ytonpekldcnankaa.X
end
section
namespace Go.Proofs.Ytonpekldcnankaa.X
open Go.RowKit Go.Proofs.YtonpekldcnankaaW.PrintWords Go.Proofs.YtonpekldcnankaaW.PrintLast Go.Proofs.Ytonpekldcnankaa.Ma
set_option linter.unusedVariables false
set_option linter.unusedSimpArgs false
theorem sp_ref6_Member {m rr r:List Int} {K:Int} (hm:Wd m) (lm:m.length≤1000) (hr:Wd r):Ev (fun k => sconceref06_Member.f k m K rr r) (memB m r):=by
  unfold sconceref06_Member.f memB
  by_cases h1:r.length = m.length
  · have b:=blen_nW hr
    rw [decide_eq_true h1,Bool.true_and]
    refine ev_pos (by omega) (ev_bind (sp_OfW hr (by omega)) (ev_bind (sp_OfW hm (by omega)) (ev_bind (sp_Cmp (by omega)) (ev_const ?_))))
    congr 1
    unfold cmpI
    by_cases h2:nW r < nW m
    · rw [if_pos h2,decide_eq_true h2]
      rfl
    · rw [if_neg h2,decide_eq_false h2]
      split <;> rfl
  · rw [decide_eq_false h1,Bool.false_and]
    exact ev_neg (by omega) (ev_const rfl)
theorem isMod_of_chk {m rr:List Int} {K:Int} {R:List Int × Int × List Int × Int} (h:SetR (nW m) R) (hc:chkB R m K rr = true):IsMod m K rr:=by
  unfold chkB at hc
  by_cases e1:R.2.2.2 = 0
  · rw [if_pos e1] at hc
    by_cases e2:R.1 = m
    · rw [if_pos e2] at hc
      by_cases e3:R.2.1 = K
      · rw [if_pos e3] at hc
        have e4:=of_decide_eq_true hc
        have:=(IsMod.of h e1).1
        rw [e2,e3,e4] at this
        exact this
      · rw [if_neg e3] at hc
        exact absurd hc (by decide)
    · rw [if_neg e2] at hc
      exact absurd hc (by decide)
  · rw [if_neg e1] at hc
    exact absurd hc (by decide)
end Go.Proofs.Ytonpekldcnankaa.X
end
