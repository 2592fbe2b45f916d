/- Texts of the walk and of the plain laws, laid together by a program: Sp1b. -/
import Derived.Test.YtonpekldcnankaaZC19
import Derived.Test.YtonpekldcnankaaZC29
namespace Go.Proofs.Ytonpekldcnankaa.X
open Go.RowKit Go.Proofs.YtonpekldcnankaaW.PrintWords Go.Proofs.YtonpekldcnankaaW.PrintLast Go.Proofs.YtonpekldcnankaaW.PrintMore Go.Proofs.Ytonpekldcnankaa.Ma
set_option linter.unusedVariables false
theorem inv_unique {a x y:Int} (hx0:0≤x) (hx1:x < 18446744073709551616) (hy0:0≤y) (hy1:y < 18446744073709551616) (hx:(18446744073709551616:Int) ∣ a * x - 1) (hy:(18446744073709551616:Int) ∣ a * y - 1):x = y:=by
  obtain ⟨p,hp⟩:=hx
  obtain ⟨q,hq⟩:=hy
  have e:x - y = 18446744073709551616 * (y * p - x * q):=by
    have e1:a * x = 1 + 18446744073709551616 * p:=by omega
    have e2:a * y = 1 + 18446744073709551616 * q:=by omega
    have e3:y * (a * x) = x * (a * y):=by rw [Int.mul_left_comm,Int.mul_left_comm x a y,Int.mul_comm y x]
    rw [e1,e2] at e3
    have e4:y * (1 + 18446744073709551616 * p) = y + 18446744073709551616 * (y * p):=by rw [Int.mul_add,Int.mul_one,Int.mul_left_comm]
    have e5:x * (1 + 18446744073709551616 * q) = x + 18446744073709551616 * (x * q):=by rw [Int.mul_add,Int.mul_one,Int.mul_left_comm]
    rw [e4,e5] at e3
    rw [Int.mul_sub];omega
  omega
theorem newton {a x:Int} {m:Nat} (hm:2 * m≤64) (h:(2:Int) ^ m ∣ a * x - 1):(2:Int) ^ (2 * m) ∣ a * (IntKind.u64.wrap (x * (IntKind.u64.wrap (2 - (IntKind.u64.wrap (a * x)))))) - 1:=by
  simp only [wU]
  have hM:(2:Int) ^ (2 * m) ∣ 18446744073709551616:=⟨2 ^ (64 - 2 * m),by rw [← Int.pow_add,show 2 * m + (64 - 2 * m) = 64 by omega];rfl⟩
  obtain ⟨e,he⟩:=h
  have f1:a * x % 18446744073709551616 = a * x - 18446744073709551616 * (a * x / 18446744073709551616):=by omega
  generalize a * x / 18446744073709551616 = u at *
  rw [f1]
  generalize hs:2 - (a * x - 18446744073709551616 * u) = s at *
  have f2:s % 18446744073709551616 = s - 18446744073709551616 * (s / 18446744073709551616):=by omega
  generalize s / 18446744073709551616 = v at *
  rw [f2]
  generalize ht:x * (s - 18446744073709551616 * v) = t at *
  have f3:t % 18446744073709551616 = t - 18446744073709551616 * (t / 18446744073709551616):=by omega
  generalize t / 18446744073709551616 = q at *
  rw [f3]
  have g:a * (t - 18446744073709551616 * q) - 1 = -((a * x - 1) * (a * x - 1)) + 18446744073709551616 * (a * x * u - a * x * v - a * q):=by
    rw [← ht,← hs]
    simp only [Int.mul_sub,Int.sub_mul,Int.mul_one,Int.one_mul]
    have k1:a * (x * 2) = 2 * (a * x):=by rw [← Int.mul_assoc,Int.mul_comm]
    have k2:a * (x * (a * x)) = a * x * (a * x):=by rw [← Int.mul_assoc]
    have k3:a * (x * (18446744073709551616 * u)) = 18446744073709551616 * (a * x * u):=by rw [← Int.mul_assoc,Int.mul_left_comm]
    have k4:a * (x * (18446744073709551616 * v)) = 18446744073709551616 * (a * x * v):=by rw [← Int.mul_assoc,Int.mul_left_comm]
    have k5:a * (18446744073709551616 * q) = 18446744073709551616 * (a * q):=by rw [Int.mul_left_comm]
    rw [k1,k2,k3,k4,k5]
    omega
  rw [g,he]
  refine Int.dvd_add ?_ (Int.dvd_trans hM (Int.dvd_mul_right _ _))
  refine Int.dvd_neg.2 ⟨e * e,?_⟩
  rw [show 2 * m = m + m by omega,Int.pow_add]
  rw [Int.mul_assoc,Int.mul_left_comm e,← Int.mul_assoc]
theorem newton_start {a:Int} (h0:0≤a) (h1:a < 18446744073709551616) (ho:a % 2 = 1):(2:Int) ^ 5 ∣ a * (Go.bits .xor .u64 (IntKind.u64.wrap (a * 3)) 2) - 1:=by
  rw [wU]
  have hy0:0≤a * 3 % 18446744073709551616:=by omega
  have hy1:a * 3 % 18446744073709551616 < 18446744073709551616:=by omega
  have hx:=b_xor hy0 hy1 (show (0:Int)≤2 by decide) (by decide)
  have hm:((a * 3 % 18446744073709551616).toNat ^^^ (2:Int).toNat) % 2 ^ 5 = ((a * 3 % 18446744073709551616).toNat % 2 ^ 5) ^^^ (2 % 2 ^ 5):=Nat.xor_mod_two_pow
  have hy:(a * 3 % 18446744073709551616).toNat % 2 ^ 5 = (a % 32 * 3 % 32).toNat:=by omega
  rw [hy] at hm
  generalize (a * 3 % 18446744073709551616).toNat ^^^ (2:Int).toNat = z at *
  rw [hx]
  have hz:((z:Int) % 32) = ((((a % 32 * 3 % 32).toNat ^^^ (2 % 2 ^ 5):Nat)):Int):=by rw [← hm];simp
  apply Int.dvd_of_emod_eq_zero
  have e:(a * (z:Int) - 1) % 2 ^ 5 = ((a % 32) * ((z:Int) % 32) - 1) % 32:=by
    rw [show (2:Int) ^ 5 = 32 by rfl,Int.sub_emod,Int.mul_emod,← Int.sub_emod]
  rw [e,hz]
  have:a % 32 = 1∨a % 32 = 3∨a % 32 = 5∨a % 32 = 7∨a % 32 = 9∨a % 32 = 11∨a % 32 = 13∨a % 32 = 15∨a % 32 = 17∨a % 32 = 19∨a % 32 = 21∨a % 32 = 23∨a % 32 = 25∨a % 32 = 27∨a % 32 = 29∨a % 32 = 31:=by omega
  rcases this with h | h | h | h | h | h | h | h | h | h | h | h | h | h | h | h <;> rw [h] <;> decide
def Inv64 (a x:Int):Prop:=wd x = true∧(a % 2 = 1→(18446744073709551616:Int) ∣ a * x - 1)∧(a % 2 = 0→x = 0)
theorem Inv64.uniq {a x y:Int} (hx:Inv64 a x) (hy:Inv64 a y):x = y:=by
  have h1:=wd_iff.1 hx.1
  have h2:=wd_iff.1 hy.1
  by_cases h:a % 2 = 1
  · exact inv_unique h1.1 h1.2 h2.1 h2.2 (hx.2.1 h) (hy.2.1 h)
  · rw [hx.2.2 (by omega),hy.2.2 (by omega)]
theorem sp_word_Inverse {a:Int} (ha:wd a = true):∃ x,Inv64 a x∧Ev (fun k => word_Inverse.f k a) x:=by
  have ha':=wd_iff.1 ha
  have hm:=sp_word_Mask ha
  have hs:=fun ho => newton_start ha'.1 ha'.2 ho
  have hn:∀ {x:Int} {m:Nat},2 * m≤64→(2:Int) ^ m ∣ a * x - 1→(2:Int) ^ (2 * m) ∣ a * (IntKind.u64.wrap (x * (IntKind.u64.wrap (2 - (IntKind.u64.wrap (a * x)))))) - 1:=fun h k => newton h k
  have hw:∀ y,0≤IntKind.u64.wrap y∧IntKind.u64.wrap y < 18446744073709551616:=fun y => by rw [wU];omega
  unfold word_Inverse.f
  generalize Go.bits .xor .u64 (IntKind.u64.wrap (a * 3)) 2 = x0 at *
  have h1:=fun ho => hn (m:=5) (by decide) (hs ho)
  generalize hx1:IntKind.u64.wrap (x0 * (IntKind.u64.wrap (2 - (IntKind.u64.wrap (a * x0))))) = x1 at *
  have h2:=fun ho => hn (m:=10) (by decide) (h1 ho)
  generalize hx2:IntKind.u64.wrap (x1 * (IntKind.u64.wrap (2 - (IntKind.u64.wrap (a * x1))))) = x2 at *
  have h3:=fun ho => hn (m:=20) (by decide) (h2 ho)
  generalize hx3:IntKind.u64.wrap (x2 * (IntKind.u64.wrap (2 - (IntKind.u64.wrap (a * x2))))) = x3 at *
  have h4:a % 2 = 1→(2:Int) ^ 64 ∣ a * (IntKind.u64.wrap (x3 * (IntKind.u64.wrap (2 - (IntKind.u64.wrap (a * x3)))))) - 1:=fun ho => hn (m:=32) (by decide) (Int.dvd_trans ⟨2 ^ 8,by decide⟩ (h3 ho))
  have hr:=hw (x3 * (IntKind.u64.wrap (2 - (IntKind.u64.wrap (a * x3)))))
  generalize hx4:IntKind.u64.wrap (x3 * (IntKind.u64.wrap (2 - (IntKind.u64.wrap (a * x3))))) = x4 at *
  refine ⟨if a % 2 = 1 then x4 else 0,⟨?_,?_,?_⟩,?_⟩
  · split
    · exact wd_iff.2 hr
    · rfl
  · intro ho;rw [if_pos ho];exact h4 ho
  · intro ho;rw [if_neg (by omega)]
  · refine Ev.step (fun k => by rw [word_Inverse.l0]) (ev_pos (by first | decide | (unfold wrap64;omega)) ?_)
    rw [hx1]
    refine Ev.step (fun k => by rw [word_Inverse.l0]) (ev_pos (by first | decide | (unfold wrap64;omega)) ?_)
    rw [hx2]
    refine Ev.step (fun k => by rw [word_Inverse.l0]) (ev_pos (by first | decide | (unfold wrap64;omega)) ?_)
    rw [hx3]
    refine Ev.step (fun k => by rw [word_Inverse.l0]) (ev_pos (by first | decide | (unfold wrap64;omega)) ?_)
    rw [hx4]
    refine Ev.step (fun k => by rw [word_Inverse.l0]) (ev_neg (by first | decide | (unfold wrap64;omega)) ?_)
    refine ev_bind0 hm (ev_const ?_)
    congr 1
    split
    · exact b_and_all hr.1 hr.2
    · exact b_and_0 hr.1 hr.2
theorem bit_of {y:Int} {i:Nat} (hi:i < 64):y % 18446744073709551616 / 2 ^ i % 2 = y / 2 ^ i % 2:=by
  have e:(18446744073709551616:Int) = 2 ^ i * (2 * 2 ^ (63 - i)):=by
    have h:(2:Int) * 2 ^ (63 - i) = 2 ^ (64 - i):=by rw [show 64 - i = (63 - i) + 1 by omega,Int.pow_succ,Int.mul_comm]
    rw [h,← Int.pow_add,show i + (64 - i) = 64 by omega];rfl
  have f:y % 18446744073709551616 = y + 2 ^ i * (-(2 * 2 ^ (63 - i)) * (y / 18446744073709551616)):=by
    have h1:=Int.emod_add_mul_ediv y 18446744073709551616
    have h2:(2:Int) ^ i * (-(2 * 2 ^ (63 - i)) * (y / 18446744073709551616)) = - (18446744073709551616 * (y / 18446744073709551616)):=by
      rw [← Int.mul_assoc,Int.mul_neg,← e,Int.neg_mul]
    rw [h2];omega
  rw [f,Int.add_mul_ediv_left _ _ (by have:(0:Int) < 2 ^ i:=Int.pow_pos (by decide);omega)]
  have g:-(2 * 2 ^ (63 - i)) * (y / 18446744073709551616) = 2 * (-(2 ^ (63 - i)) * (y / 18446744073709551616)):=by
    rw [← Int.mul_neg,Int.mul_assoc]
  rw [g];omega
theorem ref_Inverse_loop {a:Int} (ha:wd a = true) (ho:a % 2 = 1):∀ (n i:Nat),i + n = 64→∀ x:Int,0≤x→x < 2 ^ i→(2:Int) ^ i ∣ a * x - 1 →
    ∃ r,wd r = true∧(18446744073709551616:Int) ∣ a * r - 1∧Ev (fun k => sconceref01_Inverse.l0 k a x i) r:=by
  intro n
  induction n with
  | zero =>
    intro i hi x h0 h1 hd
    obtain rfl:i = 64:=by omega
    exact ⟨x,wd_iff.2 ⟨h0,h1⟩,hd,Ev.step (fun k => by rw [sconceref01_Inverse.l0]) (ev_neg (by decide) (ev_const rfl))⟩
  | succ n ih =>
    intro i hi x h0 h1 hd
    have hp:(0:Int) < 2 ^ i:=Int.pow_pos (by decide)
    have hp2:(2:Int) ^ (i + 1) = 2 ^ i * 2:=Int.pow_succ 2 i
    have hpm:(2:Int) ^ (i + 1)≤18446744073709551616:=by
      have h:2 ^ (i + 1)≤2 ^ 64:=Nat.pow_le_pow_right (by decide) (by omega)
      have e:((2 ^ (i + 1):Nat):Int) = 2 ^ (i + 1):=by simp
      omega
    have e1:IntKind.u64.wrap (i:Int) = i:=by rw [wU];omega
    have e2:wrap64 ((i:Int) + 1) = ((i + 1:Nat):Int):=by rw [w64 (by omega) (by omega)];omega
    have e3:∀ y,shr .u64 y (i:Int) = y / 2 ^ i:=fun y => by
      unfold shr;rw [Int.toNat_natCast,Nat.min_eq_left (by simp [IntKind.bits];omega)]
    have e4:shl .u64 1 (i:Int) = 2 ^ i:=by
      unfold shl;rw [Int.toNat_natCast,Nat.min_eq_left (by simp [IntKind.bits];omega),wU,Int.one_mul]
      exact Int.emod_eq_of_lt (by omega) (by omega)
    have hw0:0≤a * x % 18446744073709551616:=by omega
    have hq0:0≤a * x % 18446744073709551616 / 2 ^ i:=Int.ediv_nonneg hw0 (by omega)
    have hq1:a * x % 18446744073709551616 / 2 ^ i < 18446744073709551616:=Int.lt_of_le_of_lt (Int.ediv_le_self _ hw0) (by omega)
    obtain ⟨e,he⟩:=hd
    have hbit:a * x / 2 ^ i = e + (if i = 0 then 1 else 0):=by
      rw [show a * x = 1 + 2 ^ i * e by omega,Int.add_mul_ediv_left _ _ (by omega)]
      split
      · rename_i hi0;subst hi0;simp;omega
      · rename_i hi0
        have:(1:Int) < 2 ^ i:=by
          obtain ⟨j,rfl⟩:∃ j,i = j + 1:=⟨i - 1,by omega⟩
          have:(0:Int) < 2 ^ j:=Int.pow_pos (by decide)
          rw [Int.pow_succ];omega
        rw [Int.ediv_eq_zero_of_lt (by decide) this];omega
    have hor:Go.bits .or .u64 x (2 ^ i) = x + 2 ^ i:=by
      rw [← b_or_add (a:=2 ^ i) (b:=x) i (by omega) (by omega) h0 (by omega) (Int.emod_self) h1 |>.trans (Int.add_comm _ _)]
      rw [u64_or _ _ h0 (by omega) (by omega) (by omega),u64_or _ _ (by omega) (by omega) h0 (by omega),Nat.or_comm]
    have hone:sconceref01_One.f ((i:Int) == 0) = some (if i = 0 then 1 else 0):=by
      rw [sp_ref_One];congr 1;simp only [beq_iff_eq];split <;> split <;> omega
    by_cases hev:e % 2 = 0
    · obtain ⟨r,hr1,hr2,hr3⟩:=ih (i + 1) (by omega) x h0 (by omega) ⟨e / 2,by rw [he,hp2,Int.mul_assoc];congr 1;omega⟩
      refine ⟨r,hr1,hr2,Ev.step (fun k => by rw [sconceref01_Inverse.l0,e1,e2,e3,e4,wU,b_and1 hq0 hq1,bit_of (by omega),hbit]) ?_⟩
      refine ev_pos (by omega) (ev_pos (by omega) (ev_bind0 hone ?_))
      exact ev_pos (by split <;> omega) hr3
    · obtain ⟨r,hr1,hr2,hr3⟩:=ih (i + 1) (by omega) (x + 2 ^ i) (by omega) (by omega) ⟨(e + a) / 2,by
        rw [Int.mul_add,hp2,Int.mul_assoc,show 2 * ((e + a) / 2) = e + a by omega,Int.mul_add,Int.mul_comm a (2 ^ i)];omega⟩
      refine ⟨r,hr1,hr2,Ev.step (fun k => by rw [sconceref01_Inverse.l0,e1,e2,e3,e4,wU,b_and1 hq0 hq1,bit_of (by omega),hbit,hor]) ?_⟩
      refine ev_pos (by omega) (ev_pos (by omega) (ev_bind0 hone ?_))
      exact ev_neg (by split <;> omega) hr3
theorem sp_ref_Inverse {a:Int} (ha:wd a = true):∃ x,Inv64 a x∧Ev (fun k => sconceref01_Inverse.f k a) x:=by
  have ha':=wd_iff.1 ha
  have ht:Int.tmod a 2 = a % 2:=Int.tmod_eq_emod_of_nonneg ha'.1
  unfold sconceref01_Inverse.f
  rw [ht]
  by_cases ho:a % 2 = 1
  · obtain ⟨r,h1,h2,h3⟩:=ref_Inverse_loop ha ho 64 0 (by omega) 0 (by omega) (by decide) (by simp)
    exact ⟨r,⟨h1,fun _ => h2,fun h => by omega⟩,ev_neg (by omega) h3⟩
  · exact ⟨0,⟨rfl,fun h => absurd h ho,fun _ => rfl⟩,ev_pos (by omega) (ev_const rfl)⟩
end Go.Proofs.Ytonpekldcnankaa.X
