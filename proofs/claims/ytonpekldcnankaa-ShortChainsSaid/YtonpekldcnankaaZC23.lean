/- Texts of the walk and of the plain laws, laid together by a program: X8, Sp1, Na, Mw. -/
import Derived.Test.YtonpekldcnankaaZC22
set_option maxHeartbeats 8000000
set_option maxRecDepth 100000
section
namespace Go.Proofs.Ytonpekldcnankaa.X
open Go.RowKit Go.Proofs.YtonpekldcnankaaW.PrintWords Go.Proofs.YtonpekldcnankaaW.PrintLast Go.Proofs.YtonpekldcnankaaW.PrintMore
attribute [local go_sem] max2_int min2_int max_two min_two max_three min_three max_four min_four
set_option linter.unusedVariables false
set_option linter.unusedSimpArgs false
def word_Mul.f (a0 a1 a2 a3:Int):Option (Int × Int) :=
 if ((0≤a0∧a0 < 18446744073709551616)∧(0≤a1∧a1 < 18446744073709551616))∧((0≤a2∧a2 < 18446744073709551616)∧(0≤a3∧a3 < 18446744073709551616)) then some ((a0 * a1 + a2 + a3) / 18446744073709551616,(a0 * a1 + a2 + a3) % 18446744073709551616) else none
theorem mul64_val (a b:Int) (h0:0≤a) (h1:a < 18446744073709551616) (h2:0≤b) (h3:b < 18446744073709551616) :
  bits_Mul64.f a b = some (a * b / 18446744073709551616,a * b % 18446744073709551616):=by
 unfold bits_Mul64.f
 have m32:∀ x:Int,0≤x→x < 18446744073709551616→Go.bits .and .u64 x 4294967295 = x % 4294967296:=by
  intro x hx0 hx1
  have h:=u64_and x 4294967295 hx0 hx1 (by decide) (by decide)
  rw [h,show (4294967295:Int).toNat = 2 ^ 32 - 1 from rfl,Nat.and_two_pow_sub_one_eq_mod]
  omega
 simp only [IntKind.wrap_u64]
 rw [m32 a h0 h1,m32 b h2 h3]
 have ha:a = a / 4294967296 * 4294967296 + a % 4294967296:=by omega
 have hb:b = b / 4294967296 * 4294967296 + b % 4294967296:=by omega
 have u0:0≤a / 4294967296:=by omega
 have u1:a / 4294967296≤4294967295:=by omega
 have u2:0≤a % 4294967296:=by omega
 have u3:a % 4294967296≤4294967295:=by omega
 have v0:0≤b / 4294967296:=by omega
 have v1:b / 4294967296≤4294967295:=by omega
 have v2:0≤b % 4294967296:=by omega
 have v3:b % 4294967296≤4294967295:=by omega
 generalize a / 4294967296 = x1 at *
 generalize a % 4294967296 = x0 at *
 generalize b / 4294967296 = y1 at *
 generalize b % 4294967296 = y0 at *
 have e:a * b = (x1 * y1) * 18446744073709551616 + (x1 * y0) * 4294967296 + (x0 * y1) * 4294967296 + x0 * y0:=by
  rw [ha,hb];simp only [Int.add_mul,Int.mul_add]
  have q1:x1 * 4294967296 * (y1 * 4294967296) = (x1 * y1) * 18446744073709551616:=by
   rw [Int.mul_assoc,Int.mul_left_comm 4294967296,← Int.mul_assoc];rfl
  have q2:x1 * 4294967296 * y0 = x1 * y0 * 4294967296:=by rw [Int.mul_assoc,Int.mul_comm 4294967296,← Int.mul_assoc]
  have q3:x0 * (y1 * 4294967296) = x0 * y1 * 4294967296:=by rw [← Int.mul_assoc]
  omega
 have bd:∀ p q:Int,0≤p→p≤4294967295→0≤q→q≤4294967295→0≤p * q∧p * q≤18446744065119617025:=by
  intro p q hp hp' hq hq'
  exact ⟨Int.mul_nonneg hp hq,Int.le_trans (Int.mul_le_mul hp' hq' hq (by decide)) (by decide)⟩
 obtain ⟨s0,s1⟩:=bd x1 y1 u0 u1 v0 v1
 obtain ⟨s2,s3⟩:=bd x1 y0 u0 u1 v2 v3
 obtain ⟨s4,s5⟩:=bd x0 y1 u2 u3 v0 v1
 obtain ⟨s6,s7⟩:=bd x0 y0 u2 u3 v2 v3
 rw [e]
 clear e ha hb bd
 generalize x1 * y1 = p11 at *
 generalize x1 * y0 = p10 at *
 generalize x0 * y1 = p01 at *
 generalize x0 * y0 = p00 at *
 have k1:0≤p10 + p00 / 4294967296:=by omega
 have k2:p10 + p00 / 4294967296 < 18446744073709551616:=by omega
 have n1:(p00 % 18446744073709551616) = p00:=by omega
 have n2:(p10 % 18446744073709551616) = p10:=by omega
 have n3:(p01 % 18446744073709551616) = p01:=by omega
 have n4:(p11 % 18446744073709551616) = p11:=by omega
 simp only [n1,n2,n3,n4]
 rw [Int.emod_eq_of_lt k1 k2,m32 _ k1 k2]
 congr 2 <;> omega
theorem word_Mul.calls (a0 a1 a2 a3 r1 r2:Int) (w:World) (h:word_Mul.f a0 a1 a2 a3 = some (r1,r2)) :
  Calls Try.prog 149 #[.int .u64 a0,.int .u64 a1,.int .u64 a2,.int .u64 a3] w fun e w' => e = .returned (.tuple #[.int .u64 r1,.int .u64 r2])∧Drawn0 w w':=by
 unfold word_Mul.f at h
 split at h
 ·
  rename_i hc
  obtain ⟨⟨⟨h0,h0'⟩,h1,h1'⟩,⟨h2,h2'⟩,h3,h3'⟩:=hc
  simp only [Option.some.injEq,Prod.mk.injEq] at h
  have hm:=mul64_val a0 a1 h0 h0' h1 h1'
  have p0:0≤a0 * a1:=Int.mul_nonneg h0 h1
  have p1:a0 * a1≤340282366920938463426481119284349108225:=Int.le_trans (Int.mul_le_mul (show a0≤18446744073709551615 by omega) (show a1≤18446744073709551615 by omega) h1 (by decide)) (by decide)
  generalize a0 * a1 = P at *
  have q0:0≤P / 18446744073709551616:=by omega
  have q1:0≤P % 18446744073709551616:=by omega
  have q2:P % 18446744073709551616 < 18446744073709551616:=by omega
  have q3:P / 18446744073709551616≤18446744073709551614:=by omega
  have q4:P = P / 18446744073709551616 * 18446744073709551616 + P % 18446744073709551616:=by omega
  generalize P / 18446744073709551616 = hi at *
  generalize P % 18446744073709551616 = lo at *
  have s0:0≤(lo + a2) % 18446744073709551616:=by omega
  obtain ⟨e1,e2⟩:=h
  have er1:(hi + (lo + a2) / 18446744073709551616 + ((lo + a2) % 18446744073709551616 + a3) / 18446744073709551616) % 18446744073709551616 = r1:=by omega
  have er2:(lo + a2 + a3) % 18446744073709551616 = r2:=by omega
  have E1:=Lib.hid er1
  have E2:=Lib.hid er2
  clear e1 e2 er1 er2
  have HM:=Lib.hid hm
  have H4:=Lib.hid q4
  clear hm q4
  go_enter Try.func149,Try.ntmps149
  go_wp2_with (first | (go_at_call 175;refine (bits_Mul64.calls a0 a1 hi lo _ HM.out).mono ?_;rintro e w' ⟨rfl,⟨n,rfl⟩⟩) | simp only [w_add64_0 lo a2 q1 h2] | simp only [w_add64_0 _ a3 s0 h3])
  go_ret2
  exact ⟨ret_two E1.out E2.out,by first | exact Drawn0.refl _ | (exact (Drawn0.refl _).step _)⟩
 ·
  exact absurd h (by simp)
def product_long.l0:Nat→List (List Int)→Int→Int→Option (Bool)
 | 0,_,_,_ => none
 | k + 1,x5,x6,x7 => if x7 < x6 then (if 0≤x7 then (if x7 < (x5.length:Int) then (if ((rd_L2 x5 x7).length:Int) > 300 then (some true) else (product_long.l0 k x5 x6 (wrap64 (x7 + 1)))) else (none)) else (none)) else (some false)
def product_long.f (k:Nat) (l0:List (List Int)):Option (Bool):=product_long.l0 k l0 (l0.length:Int) 0
theorem product_long.calls (k:Nat) (A0:Option Addr) (c0:Nat) (l0:List (List Int)) (r:Bool) (w:World) (hr0:Kd.C (Kd.slice 24 (Kd.int .u64)) w A0 l0.length l0) (hc0:l0.length≤c0) (h:product_long.f k l0 = some r) :
  Calls Try.prog 158 #[.slice A0 l0.length c0] w fun e w' => e = .returned (.bool r)∧Drawn0 w w':=by
 have HR0:=Aside0.mk hr0
 have HC0:=Aside0.mk hc0
 clear hr0 hc0
 have H:(product_long.l0 k l0 (l0.length:Int) 0) = some r:=h
 clear h
 have H':=Aside0.mk H
 clear H
 go_enter Try.func158,Try.ntmps158
 go_wp2
 go_loopg [7] k (fun kq v7 w' => ∃ (x7_1:Int),v7 = .int .i64 x7_1∧Aside0 (product_long.l0 kq l0 (l0.length:Int) x7_1 = some r)∧Aside0 (kq≤k)∧Drawn0 w w')
 case atStart => exact ⟨(0),(by first | rfl | (simp;done) | (simp [*];done)),H',⟨Nat.le_refl _⟩,by repeat (first | exact Drawn0.refl _ | apply Drawn0.step)⟩
 case round =>
  clear H'
  try clear c1
  obtain ⟨x7_1,rfl,HA,HK1,⟨m1,rfl⟩⟩:=hrel
  cases gk with
  | zero => exact absurd HA.out (by simp [product_long.l0])
  | succ k1 =>
   have H:=HA.out
   clear HA
   simp only [product_long.l0] at H
   by_cases c2:x7_1 < (l0.length:Int)
   ·
    rw [if_pos c2] at H
    have c2b0:decide (x7_1 < (l0.length:Int)) = true:=decide_eq_true c2
    clear c2
    by_cases c3:0≤x7_1
    ·
     rw [if_pos c3] at H
     have c3b0:decide (0≤x7_1) = true:=decide_eq_true c3
     clear c3
     by_cases c4:x7_1 < (l0.length:Int)
     ·
      rw [if_pos c4] at H
      have c4b0:decide (x7_1 < (l0.length:Int)) = true:=decide_eq_true c4
      clear c4
      by_cases c5:((rd_L2 l0 x7_1).length:Int) > 300
      ·
       rw [if_pos c5] at H
       have c5b0:decide (300 < ((rd_L2 l0 x7_1).length:Int)) = true:=decide_eq_true c5
       have c5b1:decide (300 < (rd_L2 l0 x7_1).length) = true:=decide_eq_true (by omega)
       clear c5
       obtain rfl:=Option.some.inj H
       have p222:0≤(x7_1:Int):=of_decide_eq_true vD
       have q222:x7_1 < (l0.length:Int):=of_decide_eq_true vD
       obtain ⟨ad222,A222_0,c222_0,e222,hx222_0,hl222_0,hi222_0⟩:=at_L2 HR0.out x7_1 p222 q222
       cases e222
       have HR222_0:=Aside0.mk hi222_0
       have HC222_0:=Aside0.mk hl222_0
       clear hi222_0 hl222_0
       replace p222:=eq_true p222
       replace q222:=eq_true q222
       go_wp2
       go_ret
       exact ⟨by first | rfl | (simp;done) | (simp [*];done),by repeat (first | exact Drawn0.refl _ | apply Drawn0.step)⟩
      ·
       rw [if_neg c5] at H
       have c5b0:decide (300 < ((rd_L2 l0 x7_1).length:Int)) = false:=decide_eq_false c5
       have c5b1:decide (300 < (rd_L2 l0 x7_1).length) = false:=decide_eq_false (by omega)
       clear c5
       have H':=Aside0.mk H
       clear H
       have p222:0≤(x7_1:Int):=of_decide_eq_true vD
       have q222:x7_1 < (l0.length:Int):=of_decide_eq_true vD
       obtain ⟨ad222,A222_0,c222_0,e222,hx222_0,hl222_0,hi222_0⟩:=at_L2 HR0.out x7_1 p222 q222
       cases e222
       have HR222_0:=Aside0.mk hi222_0
       have HC222_0:=Aside0.mk hl222_0
       clear hi222_0 hl222_0
       replace p222:=eq_true p222
       replace q222:=eq_true q222
       go_wp2
       go_roundg k1
       case measure => have:=HK1.out;omega
       case rel => exact ⟨(wrap64 (x7_1 + 1)),(by first | rfl | (simp;done) | (simp [*];done)),H',⟨by have:=HK1.out;omega⟩,by repeat (first | exact Drawn0.refl _ | apply Drawn0.step)⟩
     ·
      rw [if_neg c4] at H
      exact absurd H (by simp)
    ·
     rw [if_neg c3] at H
     exact absurd H (by simp)
   ·
    rw [if_neg c2] at H
    have c2b0:decide (x7_1 < (l0.length:Int)) = false:=decide_eq_false c2
    clear c2
    obtain rfl:=Option.some.inj H
    go_wp2
    go_ret
    exact ⟨by first | rfl | (simp;done) | (simp [*];done),by repeat (first | exact Drawn0.refl _ | apply Drawn0.step)⟩
def bits_LeadingZeros64.f (a0:Int):Option (Int):=(bits_Len64.f a0).bind fun t223 => (some (wrap64 (64 - t223)))
theorem bits_LeadingZeros64.calls (a0:Int) (r:Int) (w:World) (h:bits_LeadingZeros64.f a0 = some r) :
  Calls Try.prog 179 #[.int .u64 a0] w fun e w' => e = .returned (.int .i64 r)∧Drawn0 w w':=by
 have H:((bits_Len64.f a0).bind fun t223 => (some (wrap64 (64 - t223)))) = some r:=h
 clear h
 replace H:=Option.bind_eq_some_iff.mp H
 obtain ⟨t223,A20,H⟩:=H
 replace H:(some (wrap64 (64 - t223))) = some r:=H
 have A2:=Aside0.mk A20
 clear A20
 obtain rfl:=Option.some.inj H
 go_enter Try.func179,Try.ntmps179
 go_wp2_with (first | ((with_reducible refine gate_callee (f:=128) rfl ?_);refine goesL_ (some 4) rfl rfl Try.func128 (by kernel_rfl) rfl #[.int .u64 a0] rfl vA ?_;(with_reducible refine (bits_Len64.calls a0 t223 _ A2.out).mono ?_);rintro e w' ⟨rfl,⟨nd,rfl⟩⟩;refine ⟨_,rfl,?_⟩))
 go_ret
 exact ⟨by first | rfl | (simp;done) | (simp [*];done),by repeat (first | exact Drawn0.refl _ | apply Drawn0.step)⟩
end Go.Proofs.Ytonpekldcnankaa.X
end
section
namespace Go.Proofs.Ytonpekldcnankaa.X
open Go.RowKit Go.Proofs.YtonpekldcnankaaW.PrintWords Go.Proofs.YtonpekldcnankaaW.PrintLast Go.Proofs.YtonpekldcnankaaW.PrintMore Go.Proofs.Ytonpekldcnankaa.Ma
set_option linter.unusedVariables false
theorem sp_word_Add {a b c:Int} (ha:wd a = true) (hb:wd b = true) (hc:wd c = true):word_Add.f a b c = some ((a + b + c % 2) % 18446744073709551616,(a + b + c % 2) / 18446744073709551616):=by
  rw [wd_iff] at ha hb hc
  unfold word_Add.f;rw [if_pos ⟨⟨ha.1,hb.1⟩,hc⟩]
theorem sp_word_Mul {a b c d:Int} (ha:wd a = true) (hb:wd b = true) (hc:wd c = true) (hd:wd d = true):word_Mul.f a b c d = some ((a * b + c + d) / 18446744073709551616,(a * b + c + d) % 18446744073709551616):=by
  rw [wd_iff] at ha hb hc hd
  unfold word_Mul.f;rw [if_pos ⟨⟨ha,hb⟩,hc,hd⟩]
theorem sp_word_Mask {a:Int} (ha:wd a = true):word_Mask.f a = some (if a % 2 = 1 then 18446744073709551615 else 0):=by
  rw [wd_iff] at ha
  unfold word_Mask.f;rw [b_and1 ha.1 ha.2,wU]
  congr 1;split <;> omega
theorem sp_ref_One {b:Bool}:sconceref01_One.f b = some (if b = true then 1 else 0):=by
  unfold sconceref01_One.f;split <;> rfl
end Go.Proofs.Ytonpekldcnankaa.X
end
section
namespace Go.Proofs.Ytonpekldcnankaa.X
open Go.RowKit Go.Proofs.YtonpekldcnankaaW.PrintWords Go.Proofs.YtonpekldcnankaaW.PrintLast Go.Proofs.YtonpekldcnankaaW.PrintMore Go.Proofs.Ytonpekldcnankaa.Ma
set_option linter.unusedVariables false
def bl (x:Nat):Nat:=if x = 0 then 0 else Nat.log2 x + 1
theorem bl_zero:bl 0 = 0:=rfl
theorem bl_lt (x:Nat):x < 2 ^ bl x:=by
  unfold bl;split
  · rename_i h;subst h;simp
  · exact Nat.lt_log2_self
theorem bl_ge {x:Nat} (h:x≠0):2 ^ (bl x - 1)≤x:=by
  unfold bl;rw [if_neg h];exact Nat.log2_self_le h
theorem bl_pos {x:Nat} (h:x≠0):0 < bl x:=by unfold bl;rw [if_neg h];omega
theorem bl_le {x n:Nat} (h:x < 2 ^ n):bl x≤n:=by
  by_cases hx:x = 0
  · subst hx;exact Nat.zero_le _
  · have h1:=Nat.lt_of_le_of_lt (bl_ge hx) h
    have h2:=(Nat.pow_lt_pow_iff_right (show 1 < 2 by decide)).1 h1
    have:=bl_pos hx
    omega
theorem bl_eq {x n:Nat} (h1:2 ^ n≤x) (h2:x < 2 ^ (n + 1)):bl x = n + 1:=by
  have h3:=bl_le h2
  have h4:=bl_lt x
  have h5:=(Nat.pow_lt_pow_iff_right (show 1 < 2 by decide)).1 (Nat.lt_of_le_of_lt h1 h4)
  omega
theorem bl_half {x:Nat} (h:x≠0):bl x = 1 + bl (x / 2):=by
  by_cases h1:x / 2 = 0
  · have:x = 1:=by omega
    subst this;decide
  · have a:=bl_ge h1
    have b:=bl_lt (x / 2)
    have c:=bl_pos h1
    have e:2 ^ bl (x / 2) = 2 * 2 ^ (bl (x / 2) - 1):=by rw [← Nat.pow_succ'];congr 1;omega
    have e2:2 ^ (bl (x / 2) + 1) = 2 * 2 ^ bl (x / 2):=Nat.pow_succ' ..
    rw [bl_eq (n:=bl (x / 2)) (by omega) (by omega)];omega
theorem bitLen_bl:∀ n x:Nat,x < 2 ^ n→x < 2 ^ 64→Lib.bitLen x = bl x
  | 0,x,h,_ => by
    have:x = 0:=by simpa using h
    subst this;decide
  | n + 1,x,h,h64 => by
    by_cases hx:x = 0
    · subst hx;decide
    · rw [Lib.bitLen_half x hx h64,bl_half hx,bitLen_bl n (x / 2) (by rw [Nat.pow_succ] at h;omega) (by omega)]
def wlen (x:Nat):Nat:=if x = 0 then 0 else Nat.log2 x / 64 + 1
theorem W_pow2 (n:Nat):18446744073709551616 ^ n = 2 ^ (64 * n):=by rw [Nat.pow_mul]
theorem wlen_lt (x:Nat):x < 18446744073709551616 ^ wlen x:=by
  unfold wlen;split
  · rename_i h;subst h;simp
  · rw [W_pow2];exact Nat.lt_of_lt_of_le Nat.lt_log2_self (Nat.pow_le_pow_right (by decide) (by omega))
theorem wlen_ge {x:Nat} (h:x≠0):18446744073709551616 ^ (wlen x - 1)≤x:=by
  unfold wlen;rw [if_neg h,W_pow2]
  exact Nat.le_trans (Nat.pow_le_pow_right (by decide) (by omega)) (Nat.log2_self_le h)
theorem wlen_pos {x:Nat} (h:x≠0):0 < wlen x:=by unfold wlen;rw [if_neg h];omega
theorem wlen_zero:wlen 0 = 0:=rfl
theorem wlen_le {x n:Nat} (h:x < 18446744073709551616 ^ n):wlen x≤n:=by
  by_cases hx:x = 0
  · subst hx;exact Nat.zero_le _
  · have h1:=Nat.lt_of_le_of_lt (wlen_ge hx) h
    have h2:=(Nat.pow_lt_pow_iff_right (show 1 < 18446744073709551616 by decide)).1 h1
    have:=wlen_pos hx
    omega
theorem wlen_eq {x n:Nat} (h1:18446744073709551616 ^ n≤x) (h2:x < 18446744073709551616 ^ (n + 1)):wlen x = n + 1:=by
  have h3:=wlen_le h2
  have h4:=wlen_lt x
  have h5:=(Nat.pow_lt_pow_iff_right (show 1 < 18446744073709551616 by decide)).1 (Nat.lt_of_le_of_lt h1 h4)
  omega
theorem wlen_nW {l:List Int} (h:Wd l):wlen (nW l)≤l.length:=wlen_le (nW_lt h)
theorem at0_nW {l:List Int} (h:Wd l) (i:Nat):at0 l i = ((nW l / 18446744073709551616 ^ i % 18446744073709551616:Nat):Int):=at0_num (by decide) h i
theorem least_loop {l:List Int} (hl:Wd l) (hn:l.length≤1000000000):∀ i:Nat,i≤l.length→nW l < 18446744073709551616 ^ i→Ev (fun k => nat_least.l0 k l (i:Int)) ((wlen (nW l):Nat):Int)
  | 0,hi,h => by
    have h0:nW l = 0:=by simpa using h
    refine Ev.step (fun k => by rw [nat_least.l0]) (ev_neg (by omega) (ev_const ?_))
    rw [h0];rfl
  | i + 1,hi,h => by
    have e:wrap64 (((i + 1:Nat):Int) - 1) = (i:Int):=by rw [w64 (by omega) (by omega)];omega
    refine Ev.step (fun k => by rw [nat_least.l0]) (ev_pos (by omega) ?_)
    rw [e]
    refine ev_pos (by omega) (ev_pos (by omega) ?_)
    rw [rdA,at0_nW hl]
    have hm:nW l / 18446744073709551616 ^ i % 18446744073709551616 = nW l / 18446744073709551616 ^ i:=Nat.mod_eq_of_lt ((Nat.div_lt_iff_lt_mul (Nat.pow_pos (by decide))).2 (by rw [← Nat.pow_succ'];exact h))
    rw [hm]
    by_cases hz:nW l / 18446744073709551616 ^ i = 0
    · refine ev_pos (by rw [hz];rfl) (least_loop hl hn i (by omega) ?_)
      exact (Nat.div_eq_zero_iff_lt (Nat.pow_pos (by decide))).1 hz
    · refine ev_neg (by omega) (ev_const ?_)
      rw [wlen_eq (n:=i) ?_ h]
      exact Nat.le_of_not_lt fun h2 => hz ((Nat.div_eq_zero_iff_lt (Nat.pow_pos (by decide))).2 h2)
theorem sp_nat_least {l:List Int} (hl:Wd l) (hn:l.length≤1000000000):Ev (fun k => nat_least.f k l) ((wlen (nW l):Nat):Int):=by
  unfold nat_least.f
  exact least_loop hl hn l.length (Nat.le_refl _) (nW_lt hl)
theorem bl_top {x n:Nat} (h1:18446744073709551616 ^ n≤x):bl x = 64 * n + bl (x / 18446744073709551616 ^ n):=by
  have hp:0 < 18446744073709551616 ^ n:=Nat.pow_pos (by decide)
  have ht:x / 18446744073709551616 ^ n≠0:=fun h => by have:=(Nat.div_eq_zero_iff_lt hp).1 h;omega
  have a:=bl_ge ht
  have b:=bl_lt (x / 18446744073709551616 ^ n)
  have c:=bl_pos ht
  generalize bl (x / 18446744073709551616 ^ n) = d at *
  have a':=(Nat.le_div_iff_mul_le hp).1 a
  have b':=(Nat.div_lt_iff_lt_mul hp).1 b
  rw [W_pow2,← Nat.pow_add] at a' b'
  rw [bl_eq (n:=64 * n + d - 1) (by rw [show 64 * n + d - 1 = d - 1 + 64 * n by omega];exact a') (by rw [show 64 * n + d - 1 + 1 = d + 64 * n by omega];exact b')]
  omega
theorem sp_nat_Bits {l:List Int} (hl:Wd l) (hn:l.length≤1000000000):Ev (fun k => nat_Bits.f k l) ((bl (nW l):Nat):Int):=by
  unfold nat_Bits.f
  refine ev_bind (sp_nat_least hl hn) ?_
  have hw:=wlen_nW hl
  by_cases h0:nW l = 0
  · refine ev_pos (by rw [h0];rfl) (ev_const ?_)
    rw [h0];rfl
  · have hp:=wlen_pos h0
    obtain ⟨n,hn2⟩:∃ n,wlen (nW l) = n + 1:=⟨wlen (nW l) - 1,by omega⟩
    have hge:=wlen_ge h0
    have hlt:=wlen_lt (nW l)
    rw [hn2] at hge hlt hw ⊢
    rw [Nat.add_sub_cancel] at hge
    have e:wrap64 (((n + 1:Nat):Int) - 1) = (n:Int):=by rw [w64 (by omega) (by omega)];omega
    refine ev_neg (by omega) ?_
    simp only [e]
    refine ev_pos (by omega) (ev_pos (by omega) ?_)
    rw [rdA,at0_nW hl]
    have hm:nW l / 18446744073709551616 ^ n % 18446744073709551616 = nW l / 18446744073709551616 ^ n:=Nat.mod_eq_of_lt ((Nat.div_lt_iff_lt_mul (Nat.pow_pos (by decide))).2 (by rw [← Nat.pow_succ'];exact hlt))
    have hlw:nW l / 18446744073709551616 ^ n < 18446744073709551616:=by rw [← hm];exact Nat.mod_lt _ (by decide)
    rw [hm]
    have hb:=bl_top hge
    have hb64:=bl_le (n:=64) (show nW l / 18446744073709551616 ^ n < 2 ^ 64 from hlw)
    refine ev_bind0 (a:=((bl (nW l / 18446744073709551616 ^ n):Nat):Int)) ?_ (ev_const ?_)
    · unfold bits_Len64.f
      rw [if_pos ⟨by omega,by omega⟩,Int.toNat_natCast,bitLen_bl 64 _ hlw hlw]
    · rw [hb]
      generalize bl (nW l / 18446744073709551616 ^ n) = d at *
      rw [w64 (n:=64 * (n:Int)) (by omega) (by omega),w64 (by omega) (by omega)]
      congr 1
theorem long_loop (ls:List (List Int)) (hn:ls.length≤1000000000):∀ (d i:Nat),i + d = ls.length→Ev (fun k => product_long.l0 k ls (ls.length:Int) (i:Int)) (!(fewB 300 (ls.drop i))):=by
  intro d
  induction d with
  | zero =>
    intro i hi
    refine Ev.step (fun k => by rw [product_long.l0]) (ev_neg (by omega) (ev_const ?_))
    rw [List.drop_of_length_le (by omega)];rfl
  | succ d ih =>
    intro i hi
    refine Ev.step (fun k => by rw [product_long.l0,w64_succ (by omega),rdLI]) ?_
    refine ev_pos (by omega) (ev_pos (by omega) (ev_pos (by omega) ?_))
    rw [few_step (show i < ls.length by omega)]
    by_cases h:((ls.getD i []).length:Int) > 300
    · refine ev_pos h (ev_const ?_)
      rw [show decide ((ls.getD i []).length≤300) = false from decide_eq_false (by omega)];rfl
    · refine ev_neg h ?_
      rw [show decide ((ls.getD i []).length≤300) = true from decide_eq_true (by omega),Bool.true_and]
      exact ih (i + 1) (by omega)
theorem sp_product_long (ls:List (List Int)) (hn:ls.length≤1000000000):Ev (fun k => product_long.f k ls) (!(fewB 300 ls)):=by
  unfold product_long.f
  exact long_loop ls hn ls.length 0 (by omega)
end Go.Proofs.Ytonpekldcnankaa.X
end
section
namespace Go.Proofs.Ytonpekldcnankaa.X
open Go.RowKit Go.Proofs.YtonpekldcnankaaW.PrintWords Go.Proofs.YtonpekldcnankaaW.PrintLast Go.Proofs.YtonpekldcnankaaW.PrintMore Go.Proofs.Ytonpekldcnankaa.Ma
attribute [local go_sem] max2_int min2_int max_two min_two max_three min_three max_four min_four
set_option linter.unusedVariables false
set_option linter.unusedSimpArgs false
theorem R_blk {W:World} {g base:Nat} {xs:List Int} {ok:Nat→Prop} (h:W.heap[g]? = some (.cells (encs (Value.int .u64) xs).toArray 24 (0,0))) (hb:base≤g) (hn:xs.length≤35184372088832) (hok:ok g) :
    Kd.R (Kd.int .u64) 24 W base ok (.slice (some ⟨g,0,none⟩) xs.length xs.length) xs:=by
  have ho:W.ownsRow base 24 1 (.slice (some ⟨g,0,none⟩) xs.length xs.length) xs.length (encs (Value.int .u64) xs):=by
    refine ⟨by simp [encs],.inr ⟨g,xs.length,_,rfl,hb,h,Nat.le_refl _,by unfold maxLen;omega,by simp [encs],?_⟩⟩
    rw [List.take_of_length_le (by simp [encs])]
  exact Kd.R_of_own (h1:=fun _ => rfl) (ok:=ok) ho (fun k hk => (show g = k by simpa [Value.ownBlock] using hk) ▸ hok)
theorem mk_put2 {f:Nat→Int} {n j:Nat} (y:Int) (h:j < n):(mk f n).set j y = mk (fun p => if p = j then y else f p) n:=by
  apply ext_at0
  · rw [List.length_set,mk_length,mk_length]
  · intro i hi
    rw [List.length_set,mk_length] at hi
    rw [at0_set (by rw [mk_length];exact h),at0_mk hi,at0_mk hi]
theorem mk_congr2 {f g:Nat→Int} {n:Nat} (h:∀ p,p < n→f p = g p):mk f n = mk g n:=by
  unfold mk
  apply List.map_congr_left
  intro p hp
  exact h p (List.mem_range.1 hp)
def mwF (A w C:Nat) (c:List Int) (i:Nat) (j:Nat):Int:=if j < i then (((A * w + C) / 18446744073709551616 ^ j % 18446744073709551616:Nat):Int) else at0 c j
def mwK (A w C i:Nat):Nat:=(A % 18446744073709551616 ^ i * w + C % 18446744073709551616 ^ i) / 18446744073709551616 ^ i
theorem mw_step (A w C i:Nat):A / 18446744073709551616 ^ i % 18446744073709551616 * w + C / 18446744073709551616 ^ i % 18446744073709551616 + mwK A w C i = (A % 18446744073709551616 ^ (i + 1) * w + C % 18446744073709551616 ^ (i + 1)) / 18446744073709551616 ^ i:=by
  have hp:0 < 18446744073709551616 ^ i:=Nat.pow_pos (by decide)
  unfold mwK
  rw [Nat.pow_succ,Nat.mod_mul,Nat.mod_mul]
  generalize 18446744073709551616 ^ i = P at *
  generalize A % P = r
  generalize C % P = s
  generalize A / P % 18446744073709551616 = x
  generalize C / P % 18446744073709551616 = y
  have e:(r + P * x) * w + (s + P * y) = r * w + s + P * (x * w + y):=by rw [Nat.add_mul,Nat.mul_add,Nat.mul_assoc];omega
  rw [e,Nat.add_mul_div_left _ _ hp]
  omega
theorem mw_digit (A w C i:Nat):(A % 18446744073709551616 ^ (i + 1) * w + C % 18446744073709551616 ^ (i + 1)) / 18446744073709551616 ^ i % 18446744073709551616 = (A * w + C) / 18446744073709551616 ^ i % 18446744073709551616:=by
  rw [← Nat.mod_mul_right_div_self,← Nat.mod_mul_right_div_self,← Nat.pow_succ]
  congr 1
  rw [Nat.add_mod,Nat.mul_mod,Nat.mod_mod,Nat.mod_mod,← Nat.mul_mod,← Nat.add_mod]
theorem mw_carry (A w C i:Nat):(A % 18446744073709551616 ^ (i + 1) * w + C % 18446744073709551616 ^ (i + 1)) / 18446744073709551616 ^ i / 18446744073709551616 = mwK A w C (i + 1):=by
  unfold mwK
  rw [Nat.div_div_eq_div_mul,← Nat.pow_succ]
theorem mwK_lt (A w C i:Nat) (hw:w < 18446744073709551616):mwK A w C i < 18446744073709551616:=by
  unfold mwK
  have hp:0 < 18446744073709551616 ^ i:=Nat.pow_pos (by decide)
  rw [Nat.div_lt_iff_lt_mul hp]
  have h1:=Nat.mod_lt A hp
  have h2:=Nat.mod_lt C hp
  generalize 18446744073709551616 ^ i = P at *
  have h3:A % P * w≤(P - 1) * w:=Nat.mul_le_mul_right _ (by omega)
  have h4:(P - 1) * w≤(P - 1) * 18446744073709551615:=Nat.mul_le_mul_left _ (by omega)
  omega
def MwI (w:World) (g n A x C:Nat) (c:List Int) (i:Nat) (wr:World):Prop :=
  Kd.R (Kd.int .u64) 24 wr w.heap.size (fun _ => True) (.slice (some ⟨g,0,none⟩) n n) (mk (mwF A x C c i) n)∧Below w.heap.size w wr
theorem MwI.step {w wr:World} {g n A x C:Nat} {c:List Int} {i:Nat} (h:MwI w g n A x C c i wr) (hi:i < n) (nd:Nat):∃ W:World,W = (wr.drewN nd).setCell ⟨g,i,none⟩ (.int .u64 (((A * x + C) / 18446744073709551616 ^ i % 18446744073709551616:Nat):Int))∧MwI w g n A x C c (i + 1) W:=by
  obtain ⟨h1,h2⟩:=h
  have hg:=own_base h1.2.choose_spec.1 g rfl
  obtain ⟨hP,hQ⟩:=Kd.R_putg (Kd.R_drewN h1 nd) (i:Int) (((A * x + C) / 18446744073709551616 ^ i % 18446744073709551616:Nat):Int)
  rw [Int.toNat_natCast] at hP hQ
  rw [mk_put2 _ hi,mk_congr2 (g:=mwF A x C c (i + 1)) (fun p hp => by
    unfold mwF
    by_cases h5:p = i
    · subst h5;rw [if_pos rfl,if_pos (by omega)]
    · rw [if_neg h5]
      by_cases h6:p < i
      · rw [if_pos h6,if_pos (by omega)]
      · rw [if_neg h6,if_neg (by omega)])] at hP
  exact ⟨_,rfl,hP,pw_below_grown (pw_below_drewN h2 nd) (some g) (pw_below_drewN h2 nd).size hQ (fun k hk => by cases hk;exact hg)⟩
theorem MwI.cell {w wr:World} {g n A x C:Nat} {c:List Int} {i:Nat} (h:MwI w g n A x C c i wr) (hi:i < n):wr.cell? ⟨g,i,none⟩ = some (.int .u64 (at0 c i))∧wr.frozen? ⟨g,i,none⟩ = false:=by
  obtain ⟨hx,hf⟩:=Kd.R_celln 0 h.1 (i:Int) (by omega) (by omega)
  rw [Int.toNat_natCast] at hx hf
  refine ⟨?_,hf⟩
  rw [hx]
  have e:rdOf 0 (mk (mwF A x C c i) n) (i:Int) = at0 (mk (mwF A x C c i) n) i:=by unfold rdOf at0;rw [Int.toNat_natCast]
  show some (Value.int .u64 (rdOf 0 _ _)) = _
  rw [e,at0_mk hi]
  unfold mwF
  rw [if_neg (by omega)]
theorem C_cells {w:World} {A:Option Addr} {l:List Int} (h:Kd.C (Kd.int .u64) w A l.length l) (hp:0 < l.length):∃ ad,A = some ad∧∀ j v,(encs (Value.int .u64) l)[j]? = some v→w.cell? (ad.add j) = some v:=by
  obtain ⟨ad,hA,_⟩:=Kd.at_int h 0 (by omega) (by omega)
  refine ⟨ad,hA,fun j v hj => ?_⟩
  have hjl:j < l.length:=by
    have:=(List.getElem?_eq_some_iff.1 hj).1
    simpa [encs] using this
  obtain ⟨ad',hA',hc⟩:=Kd.at_int h (j:Int) (by omega) (by omega)
  rw [hA] at hA'
  cases hA'
  rw [Int.toNat_natCast] at hc
  rw [hc]
  have hv:v = Value.int .u64 (l[j]):=by simpa [encs,hjl] using hj.symm
  rw [hv]
  simp [rd,hjl]
theorem mw_splice {n A x C:Nat} {c:List Int} (hc:c.length≤n):splice (Zs n).toList 0 (encs (Value.int .u64) c) = encs (Value.int .u64) (mk (mwF A x C c 0) n):=by
  rw [Zs_list,splice,List.take_zero,List.nil_append,Nat.zero_add]
  have e:mk (mwF A x C c 0) n = c ++ List.replicate (n - c.length) 0:=by
    apply ext_at0
    · rw [mk_length,List.length_append,List.length_replicate];omega
    · intro i hi
      rw [mk_length] at hi
      rw [at0_mk hi]
      unfold mwF
      rw [if_neg (by omega)]
      unfold at0
      rw [List.getD_eq_getElem?_getD,List.getD_eq_getElem?_getD]
      by_cases h:i < c.length
      · rw [List.getElem?_append_left h]
      · rw [List.getElem?_append_right (by omega),List.getElem?_eq_none (by omega),List.getElem?_replicate]
        split <;> rfl
  rw [e]
  simp [encs]
theorem mwK_zero (A x C:Nat):mwK A x C 0 = 0:=by unfold mwK;simp [Nat.mod_one]
theorem mw_end {A x C n:Nat} {c:List Int}:mk (mwF A x C c n) n = wds n (A * x + C):=by
  apply ext_at0
  · rw [mk_length,dgs_length]
  · intro i hi
    rw [mk_length] at hi
    rw [at0_mk hi,at0_dgs _ hi]
    unfold mwF
    rw [if_pos hi]
theorem mwK_end {A x C n:Nat} (hA:A < 18446744073709551616 ^ n) (hC:C < 18446744073709551616 ^ n):mwK A x C n = (A * x + C) / 18446744073709551616 ^ n:=by
  unfold mwK;rw [Nat.mod_eq_of_lt hA,Nat.mod_eq_of_lt hC]
theorem mw_word {l1 l3:List Int} (h1:Wd l1) (h3:Wd l3) {x:Nat} (hx:x < 18446744073709551616) (i:Nat) :
    word_Mul.f (at0 l1 i) (x:Int) (at0 l3 i) ((mwK (nW l1) x (nW l3) i:Nat):Int) = some (((mwK (nW l1) x (nW l3) (i + 1):Nat):Int),(((nW l1 * x + nW l3) / 18446744073709551616 ^ i % 18446744073709551616:Nat):Int)):=by
  have e1:=at0_nW h1 i
  have e3:=at0_nW h3 i
  have d1:=at0_dg (by decide) h1 i
  have d3:=at0_dg (by decide) h3 i
  have hk:=mwK_lt (nW l1) x (nW l3) i hx
  rw [sp_word_Mul (wd_iff.2 d1) (wd_iff.2 ⟨by omega,by omega⟩) (wd_iff.2 d3) (wd_iff.2 ⟨by omega,by omega⟩),e1,e3]
  have hT:(((nW l1 / 18446744073709551616 ^ i % 18446744073709551616:Nat):Int) * (x:Int) + ((nW l3 / 18446744073709551616 ^ i % 18446744073709551616:Nat):Int) + ((mwK (nW l1) x (nW l3) i:Nat):Int)) = ((nW l1 / 18446744073709551616 ^ i % 18446744073709551616 * x + nW l3 / 18446744073709551616 ^ i % 18446744073709551616 + mwK (nW l1) x (nW l3) i:Nat):Int):=by
    rw [Int.natCast_add,Int.natCast_add,Int.natCast_mul]
  rw [hT,mw_step,← mw_carry,← mw_digit]
  generalize (nW l1 % 18446744073709551616 ^ (i + 1) * x + nW l3 % 18446744073709551616 ^ (i + 1)) / 18446744073709551616 ^ i = T
  rw [show (T:Int) / 18446744073709551616 = ((T / 18446744073709551616:Nat):Int) by omega,show (T:Int) % 18446744073709551616 = ((T % 18446744073709551616:Nat):Int) by omega]
theorem product_MulWord_ok (A1:Option Addr) (c1:Nat) (l1:List Int) (x:Nat) (A3:Option Addr) (c3:Nat) (l3:List Int) (w:World) (hr1:Kd.C (Kd.int .u64) w A1 l1.length l1) (hc1:l1.length≤c1) (hr3:Kd.C (Kd.int .u64) w A3 l3.length l3) (hc3:l3.length≤c3)
    (h1:Wd l1) (h3:Wd l3) (hx:x < 18446744073709551616) (hl1:l1.length≤300) (hl3:l3.length≤300) :
    Calls Try.prog 184 #[.pointer none,.slice A1 l1.length c1,.int .u64 (x:Int),.slice A3 l3.length c3] w fun e w' => ∃ v:Value,e = .returned (.tuple #[v,.int .u64 (((nW l1 * x + nW l3) / 18446744073709551616 ^ (max l1.length l3.length):Nat):Int)]) ∧
      Kd.R (Kd.int .u64) 24 w' w.heap.size (fun _ => True) v (wds (max l1.length l3.length) (nW l1 * x + nW l3))∧Below w.heap.size w w':=by
  obtain ⟨n,hn⟩:∃ n:Nat,n = max l1.length l3.length:=⟨_,rfl⟩
  rw [← hn]
  have hmx:(if l1.length < l3.length then (l3.length:Int) else (l1.length:Int)) = (n:Int):=by split <;> omega
  have hn1:l1.length≤n:=by omega
  have hn3:l3.length≤n:=by omega
  have hn2:n≤300:=by omega
  have HMX:=Aside0.mk hmx
  clear hn
  have HA:=Aside0.mk (nW_lt' h1 hn1)
  have HC:=Aside0.mk (nW_lt' h3 hn3)
  have HW:=Aside0.mk (mw_word h1 h3 hx)
  have HG:=Aside0.mk (fun i => at0_ge (l:=l1) (i:=i))
  have H1:=Aside0.mk hr1
  have H2:=Aside0.mk hr3
  obtain ⟨ls,hls⟩:∃ ls:List (List Int),ls = [l1,l3]:=⟨_,rfl⟩
  obtain ⟨kL,hkL⟩:=sp_product_long ls (by rw [hls];simp)
  have hfew:(!(fewB 300 ls)) = false:=by rw [hls];simp only [fewB,List.all_cons,List.all_nil,Bool.and_true];rw [Bool.not_eq_false',Bool.and_eq_true_iff,decide_eq_true_iff,decide_eq_true_iff];omega
  have SL:=Aside0.mk (hkL kL (Nat.le_refl _))
  rw [hfew] at SL
  have HLS:=Aside0.mk hls
  have m1:=run_make_nat n (by omega)
  clear hls hkL hfew hr1 hr3 h1 h3
  go_enter Try.func184,Try.ntmps184
  go_wp2_with (first
    | ((with_reducible refine gate_dst (N:=17) rfl ?_);refine Kd.N_lit (Kd.slice 24 (Kd.int .u64)) _ 23 ?hg (N':=17) ?hd (xs:=([l1,l3]:List (List Int))) (inner:=[.slice A1 l1.length c1,.slice A3 l3.length c3]) (ok:=fun _ => True) (okp:=fun k_ => k_ < w.heap.size) ?hr ?hp (fun _ _ => trivial) trivial (Below.refl _ _) (Nat.le_refl _) (by simp) ?_;(case hd => rfl);(case hg => rfl);(case hr => first | (go_simp;done) | (go_simp;rfl));(case hp => exact (Reps.one (show Kd.FK (Kd.slice 24 (Kd.int .u64)) _ _ l1 [.slice A1 l1.length c1] from Kd.FK_slice_mk hc1 (Kd.C_F (Kd.heap_int .u64) H1.out)) (Reps.one (show Kd.FK (Kd.slice 24 (Kd.int .u64)) _ _ l3 [.slice A3 l3.length c3] from Kd.FK_slice_mk hc3 (Kd.C_F (Kd.heap_int .u64) H2.out)) (Reps.none _ _))));intro v3 w3 ho3 hb3 hg3 hat3;rw [← HLS.out] at ho3;have HO3:=Aside0.mk ho3;have HB3:=Aside0.mk hb3;clear ho3 hb3 hg3 hat3;obtain ⟨AL,cL,e3⟩:=Kd.N_slice HO3.out;subst e3)
    | ((with_reducible refine gate_callee (f:=158) rfl ?_);refine goesL_ (some 18) rfl rfl Try.func158 (by kernel_rfl) rfl #[.slice AL ls.length cL] rfl (by (try simp only [List.map_toArray,List.map_cons,List.map_nil]);first | done | rfl) ?_;(with_reducible refine (product_long.calls kL _ _ ls false _ (Kd.N_reads' HO3.out).2.2 (Kd.N_reads' HO3.out).2.1 SL.out).mono ?_);rintro e w4 ⟨rfl,⟨nd,rfl⟩⟩;refine ⟨_,rfl,?_⟩;have hmx:=HMX.out)
    | (go_at_call 145;(with_reducible refine (trace_Trace_Span.calls _ _ rfl).mono ?_);rintro e w5 ⟨rfl,hb5⟩;have HB5:=Aside0.mk (below_then (pw_below_drewN HB3.out nd) (pw_below_drewN HB3.out nd).size hb5);clear hb5)
    | ((with_reducible refine gate_builtin (b:=.copy) (xs:=#[.tmp 29,.tmp 30]) rfl ?_);refine wpList_copy_splice rfl (.tmp 29) (.tmp 30) 23 23 rfl 24 Try.underlying23 (by kernel_rfl) (some ⟨w5.heap.size,0,none⟩) A3 n n l3.length c3 rfl rfl w5.heap.size 0 (Zs n).toList 24 (by rw [Array.toArray_toList];exact blk_new _ _) (encs (Value.int .u64) l3) (by rw [show Nat.min l3.length n = l3.length from Nat.min_eq_left hn3];simp [encs]) ?p1 (by simp [encs,Zs_size];omega) ?p2 w.heap.size w (below_alloc HB5.out _) HB5.out.size ?_;(case p1 => exact fun hp => ⟨rfl,C_cells (Kd.C_below H2.out (below_alloc HB5.out _)) (by simpa [encs] using hp)⟩);(case p2 => exact fun v hv => by simp [encs] at hv;obtain ⟨z,_,rfl⟩:=hv;rfl);intro w6 hcp hb6;have HI:=Aside0.mk (show MwI w w5.heap.size n (nW l1) x (nW l3) l3 0 w6 from ⟨by have h:=hcp.out;rw [mw_splice hn3] at h;have h2:=R_blk (ok:=fun _ => True) h HB5.out.size (by rw [mk_length];omega) trivial;rw [mk_length] at h2;exact h2,hb6⟩);clear hcp hb6))
  obtain ⟨g,hg⟩:∃ g,g = w5.heap.size:=⟨_,rfl⟩
  go_loopg [12,33] (n + 1) (fun q v12 v33 wr => ∃ i:Nat,i + q = n + 1∧i≤n∧v33 = .int .i64 i∧v12 = .int .u64 ((mwK (nW l1) x (nW l3) i:Nat):Int)∧Aside0 (MwI w w5.heap.size n (nW l1) x (nW l3) l3 i wr))
  case atStart => exact ⟨0,by omega,by omega,rfl,by rw [mwK_zero];rfl,HI⟩
  case round =>
    clear HI
    obtain ⟨i,hig,hin,rfl,rfl,HI⟩:=hrel
    have HE:=Aside0.mk hig
    cases gk with
    | zero => omega
    | succ k1 =>
      clear hig
      by_cases hlt:i < n
      · have d1:decide ((i:Int) < (n:Int)) = true:=decide_eq_true (by omega)
        have d2:decide (i < n) = true:=decide_eq_true hlt
        obtain ⟨hx1,hf1⟩:=MwI.cell HI.out hlt
        have p1:(0:Int)≤(i:Int):=by omega
        have p2:(i:Int) < (n:Int):=by omega
        have p9:IntKind.i64.wrap ((i:Int) + 1) = ((i + 1:Nat):Int):=by rw [i64_w,w64 (by omega) (by omega)];omega
        have hst:=fun nd => MwI.step HI.out hlt nd
        have HST:=Aside0.mk hst
        obtain ⟨cv,hcv⟩:∃ z:Int,z = at0 l3 i:=⟨_,rfl⟩
        obtain ⟨dv,hdv⟩:∃ z:Int,z = (((nW l1 * x + nW l3) / 18446744073709551616 ^ i % 18446744073709551616:Nat):Int):=⟨_,rfl⟩
        obtain ⟨kv,hkv⟩:∃ z:Int,z = ((mwK (nW l1) x (nW l3) i:Nat):Int):=⟨_,rfl⟩
        obtain ⟨kv2,hkv2⟩:∃ z:Int,z = ((mwK (nW l1) x (nW l3) (i + 1):Nat):Int):=⟨_,rfl⟩
        have hS:=HW.out i
        rw [← hcv,← hdv,← hkv,← hkv2] at hS
        rw [← hcv] at hx1
        have HDV:=Aside0.mk (And.intro hdv hkv2)
        have HKV:=Aside0.mk hkv
        clear hst hcv hdv hkv hkv2
        rw [← HKV.out]
        by_cases hia:i < l1.length
        · have d3:decide ((i:Int) < (l1.length:Int)) = true:=decide_eq_true (by omega)
          have d4:decide (i < l1.length) = true:=decide_eq_true hia
          have p3:(i:Int) < (l1.length:Int):=by omega
          obtain ⟨ad,hA,hxa⟩:=Kd.at_int H1.out (i:Int) (by omega) (by omega)
          rw [rdA,Int.toNat_natCast] at hxa
          subst hA
          have hxb:=(HI.out.2.cell (World.block_lt_of_cell? w _ hxa)).trans hxa
          obtain ⟨av,hav⟩:∃ z:Int,z = at0 l1 i:=⟨_,rfl⟩
          rw [← hav] at hxb hS
          have HS:=Aside0.mk hS
          clear hxa hav hS
          go_wp2_with (go_at_call 149;(with_reducible refine (word_Mul.calls _ _ _ _ _ _ _ HS.out).mono ?_);rintro e w' ⟨rfl,⟨nd,rfl⟩⟩;obtain ⟨W8,hW8,hI8⟩:=HST.out nd;have HI8:=Aside0.mk (show MwI w w5.heap.size n (nW l1) x (nW l3) l3 (i + 1) ((wr.drewN nd).setCell ⟨w5.heap.size,i,none⟩ (.int .u64 dv)) from by rw [HDV.out.1,← hW8];exact hI8);clear hW8 hI8)
          go_roundg k1
          case measure => omega
          case rel => exact ⟨i + 1,by have:=HE.out;omega,by omega,rfl,by rw [HDV.out.2],HI8⟩
        · have d3:decide ((i:Int) < (l1.length:Int)) = false:=decide_eq_false (by omega)
          have d4:decide (i < l1.length) = false:=decide_eq_false hia
          rw [HG.out i (by omega)] at hS
          have HS:=Aside0.mk hS
          clear hS
          go_wp2_with (go_at_call 149;(with_reducible refine (word_Mul.calls _ _ _ _ _ _ _ HS.out).mono ?_);rintro e w' ⟨rfl,⟨nd,rfl⟩⟩;obtain ⟨W8,hW8,hI8⟩:=HST.out nd;have HI8:=Aside0.mk (show MwI w w5.heap.size n (nW l1) x (nW l3) l3 (i + 1) ((wr.drewN nd).setCell ⟨w5.heap.size,i,none⟩ (.int .u64 dv)) from by rw [HDV.out.1,← hW8];exact hI8);clear hW8 hI8)
          go_roundg k1
          case measure => omega
          case rel => exact ⟨i + 1,by have:=HE.out;omega,by omega,rfl,by rw [HDV.out.2],HI8⟩
      · have d1:decide ((i:Int) < (n:Int)) = false:=decide_eq_false (by omega)
        have d2:decide (i < n) = false:=decide_eq_false hlt
        obtain ⟨q1,q2⟩:=HI.out
        rw [show i = n by omega,mw_end] at q1
        have HQ:=Aside0.mk (And.intro q1 q2)
        have hke:=mwK_end (x:=x) HA.out HC.out
        rw [show mwK (nW l1) x (nW l3) i = (nW l1 * x + nW l3) / 18446744073709551616 ^ n by rw [← hke,show i = n by omega]]
        clear q1 q2 hke
        go_wp2
        go_ret2
        exact ⟨_,rfl,HQ.out⟩
end Go.Proofs.Ytonpekldcnankaa.X
end
