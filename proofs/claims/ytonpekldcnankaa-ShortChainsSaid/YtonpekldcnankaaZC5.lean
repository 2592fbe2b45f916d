/- Texts of the walk and of the plain laws, laid together by a program: Ma, Bt, X5, Nu, Mk. -/
import Derived.Laws.BitsAllLaws
import Derived.Laws.Externs
import Derived.Lib.Hide
import Derived.Shelf.Spec.BitsCarry
import Derived.Test.YtonpekldcnankaaProg
import Derived.Test.YtonpekldcnankaaZv
import Derived.WalkSmall
import Derived.Test.YtonpekldcnankaaZC1
import Derived.Test.YtonpekldcnankaaZC2
import Derived.Test.YtonpekldcnankaaZC4
section
namespace Go.Proofs.Ytonpekldcnankaa.Ma
def bor (x y:Int):Int:=if x < y then 1 else 0
def wd (x:Int):Bool:=decide (0≤x) && decide (x < 18446744073709551616)
theorem wd_iff {x:Int}:wd x = true ↔ 0≤x∧x < 18446744073709551616:=by unfold wd;simp
def at0 (l:List Int) (i:Nat):Int:=l.getD i 0
theorem at0_ge {l:List Int} {i:Nat} (h:l.length≤i):at0 l i = 0:=by unfold at0;simp [h]
theorem at0_lt {l:List Int} {i:Nat} (h:i < l.length):at0 l i = l[i]:=by unfold at0;simp [h]
def vs (B:Int) (f:Nat→Int):Nat→Int
  | 0 => 0
  | n + 1 => vs B f n + f n * B ^ n
def val (B:Int) (l:List Int):Int:=vs B (at0 l) l.length
def dg (B:Int) (l:List Int):Prop:=∀ x ∈ l,0≤x∧x < B
theorem vs_congr {B:Int} {f g:Nat→Int}:∀ n,(∀ i,i < n→f i = g i)→vs B f n = vs B g n
  | 0,_ => rfl
  | n + 1,h => by simp only [vs];rw [vs_congr n (fun i hi => h i (by omega)),h n (by omega)]
theorem vs_zero {B:Int}:∀ n,vs B (fun _ => 0) n = 0
  | 0 => rfl
  | n + 1 => by simp [vs,vs_zero n]
theorem vs_add {B:Int} (f:Nat→Int) (n:Nat):∀ m,vs B f (n + m) = vs B f n + B ^ n * vs B (fun i => f (n + i)) m
  | 0 => by simp [vs]
  | m + 1 => by
    rw [← Nat.add_assoc];simp only [vs];rw [vs_add f n m,Int.mul_add,Int.pow_add]
    have:B ^ n * (f (n + m) * B ^ m) = f (n + m) * (B ^ n * B ^ m):=by rw [Int.mul_left_comm]
    rw [this,Int.add_assoc]
theorem vs_succ' {B:Int} (f:Nat→Int) (n:Nat):vs B f (n + 1) = f 0 + B * vs B (fun i => f (i + 1)) n:=by
  rw [Nat.add_comm,vs_add f 1 n];simp only [vs,Int.pow_zero,Int.mul_one,Int.zero_add,Int.pow_succ,Int.one_mul,Nat.add_comm 1]
theorem vs_nonneg {B:Int} (hB:0≤B) {f:Nat→Int}:∀ n,(∀ i,i < n→0≤f i)→0≤vs B f n
  | 0,_ => by simp [vs]
  | n + 1,h => by
    simp only [vs]
    have h1:=vs_nonneg hB n (fun i hi => h i (by omega))
    have h2:=Int.mul_nonneg (h n (by omega)) (Int.pow_nonneg hB (m:=n))
    omega
theorem vs_lt {B:Int} (hB:0 < B) {f:Nat→Int}:∀ n,(∀ i,i < n→0≤f i∧f i < B)→vs B f n < B ^ n
  | 0,_ => by simp [vs]
  | n + 1,h => by
    simp only [vs]
    have h1:=vs_lt hB n (fun i hi => h i (by omega))
    have h2:f n * B ^ n≤(B - 1) * B ^ n:=Int.mul_le_mul_of_nonneg_right (by have:=(h n (by omega)).2;omega) (Int.pow_nonneg (by omega))
    have h3:(B - 1) * B ^ n = B ^ (n + 1) - B ^ n:=by rw [Int.sub_mul,Int.one_mul,Int.pow_succ,Int.mul_comm]
    omega
theorem at0_dg {B:Int} {l:List Int} (hB:0 < B) (h:dg B l) (i:Nat):0≤at0 l i∧at0 l i < B:=by
  by_cases hi:i < l.length
  · rw [at0_lt hi];exact h _ (List.getElem_mem hi)
  · rw [at0_ge (by omega)];exact ⟨by omega,hB⟩
theorem val_cons {B:Int} (x:Int) (l:List Int):val B (x :: l) = x + B * val B l:=by
  unfold val;rw [List.length_cons,vs_succ'];congr 1
theorem vs_ge {B:Int} (l:List Int):∀ n,l.length≤n→vs B (at0 l) n = val B l:=by
  intro n hn
  obtain ⟨k,rfl⟩:∃ k,n = l.length + k:=⟨n - l.length,by omega⟩
  rw [vs_add,vs_congr k (g:=fun _ => 0) (fun i _ => at0_ge (by omega)),vs_zero]
  simp [val]
def mk (f:Nat→Int) (n:Nat):List Int:=(List.range n).map f
theorem mk_length (f:Nat→Int) (n:Nat):(mk f n).length = n:=by simp [mk]
theorem mk_succ (f:Nat→Int) (n:Nat):mk f (n + 1) = mk f n ++ [f n]:=by simp [mk,List.range_succ]
theorem at0_mk {f:Nat→Int} {n i:Nat} (h:i < n):at0 (mk f n) i = f i:=by simp [at0,mk,h]
theorem val_mk {B:Int} (f:Nat→Int) (n:Nat):val B (mk f n) = vs B f n:=by
  unfold val;rw [mk_length];exact vs_congr n (fun i hi => at0_mk hi)
theorem dg_mk {B:Int} {f:Nat→Int} {n:Nat} (h:∀ i,i < n→0≤f i∧f i < B):dg B (mk f n):=by
  intro x hx;simp only [mk,List.mem_map,List.mem_range] at hx;obtain ⟨i,hi,rfl⟩:=hx;exact h i hi
theorem mk_set (f:Nat→Int) {n i:Nat} (h:i < n):(mk f i ++ List.replicate (n - i) 0).set i (f i) = mk f (i + 1) ++ List.replicate (n - (i + 1)) 0:=by
  rw [mk_succ,List.set_append_right _ _ (by rw [mk_length];exact Nat.le_refl _),mk_length,Nat.sub_self]
  obtain ⟨d,hd⟩:∃ d,n - i = d + 1:=⟨n - i - 1,by omega⟩
  rw [hd,show n - (i + 1) = d by omega,List.replicate_succ,List.set_cons_zero,List.append_assoc]
  rfl
theorem mk_full_length (f:Nat→Int) {n i:Nat} (h:i≤n):(mk f i ++ List.replicate (n - i) 0).length = n:=by
  rw [List.length_append,mk_length,List.length_replicate];omega
theorem ext_at0 {a b:List Int} (hl:a.length = b.length) (h:∀ i,i < a.length→at0 a i = at0 b i):a = b:=by
  refine List.ext_getElem hl (fun i h1 h2 => ?_)
  have:=h i h1;rwa [at0_lt h1,at0_lt h2] at this
theorem dg_nil {B:Int}:dg B []:=by intro x hx;cases hx
theorem dg_cons {B:Int} {x:Int} {l:List Int}:dg B (x :: l) ↔ (0≤x∧x < B)∧dg B l:=by simp [dg]
theorem dg_append {B:Int} {a b:List Int}:dg B (a ++ b) ↔ dg B a∧dg B b:=by
  simp only [dg,List.mem_append];exact ⟨fun h => ⟨fun x hx => h x (.inl hx),fun x hx => h x (.inr hx)⟩,fun h x hx => hx.elim (h.1 x) (h.2 x)⟩
theorem wds_dg {l:List Int}:l.all wd = true ↔ dg 18446744073709551616 l:=by
  simp only [List.all_eq_true,wd_iff,dg]
def cyA (m:Int) (a b:List Int):Nat→Int
  | 0 => 0
  | i + 1 => (at0 a i + m * at0 b i + cyA m a b i) / 18446744073709551616
def dgA (m:Int) (a b:List Int) (i:Nat):Int:=(at0 a i + m * at0 b i + cyA m a b i) % 18446744073709551616
def cyS (m:Int) (a b:List Int):Nat→Int
  | 0 => 0
  | i + 1 => bor (at0 a i) (m * at0 b i + cyS m a b i)
def dgS (m:Int) (a b:List Int) (i:Nat):Int:=(at0 a i - m * at0 b i - cyS m a b i) % 18446744073709551616
theorem cyA_bit {m:Int} (hm:m = 0∨m = 1) {a b:List Int} (ha:dg 18446744073709551616 a) (hb:dg 18446744073709551616 b):∀ i,0≤cyA m a b i∧cyA m a b i≤1
  | 0 => by simp [cyA]
  | i + 1 => by
    simp only [cyA]
    have h:=cyA_bit hm ha hb i
    have h1:=at0_dg (by decide) ha i
    have h2:=at0_dg (by decide) hb i
    have h3:0≤m * at0 b i∧m * at0 b i < 18446744073709551616:=by rcases hm with rfl | rfl <;> omega
    omega
theorem cyS_bit {m:Int} {a b:List Int}:∀ i,0≤cyS m a b i∧cyS m a b i≤1
  | 0 => by simp [cyS]
  | i + 1 => by simp only [cyS,bor];split <;> omega
theorem sumA {m:Int} {a b:List Int}:∀ n,vs 18446744073709551616 (dgA m a b) n + cyA m a b n * 18446744073709551616 ^ n = vs 18446744073709551616 (at0 a) n + m * vs 18446744073709551616 (at0 b) n
  | 0 => by simp [vs,cyA]
  | n + 1 => by
    have ih:=sumA (m:=m) (a:=a) (b:=b) n
    simp only [vs,cyA]
    have e:dgA m a b n + (at0 a n + m * at0 b n + cyA m a b n) / 18446744073709551616 * 18446744073709551616 = at0 a n + m * at0 b n + cyA m a b n:=by
      unfold dgA;omega
    generalize (at0 a n + m * at0 b n + cyA m a b n) / 18446744073709551616 = q at *
    have e2:q * 18446744073709551616 ^ (n + 1) = (q * 18446744073709551616) * 18446744073709551616 ^ n:=by rw [Int.pow_succ,Int.mul_comm (18446744073709551616 ^ n),Int.mul_assoc]
    rw [e2]
    have e3:dgA m a b n * 18446744073709551616 ^ n + (q * 18446744073709551616) * 18446744073709551616 ^ n = (at0 a n + m * at0 b n + cyA m a b n) * 18446744073709551616 ^ n:=by rw [← Int.add_mul,e]
    have e4:m * (at0 b n * 18446744073709551616 ^ n) = m * at0 b n * 18446744073709551616 ^ n:=by rw [Int.mul_assoc]
    rw [Int.mul_add,e4]
    simp only [Int.add_mul] at e3
    omega
theorem subS {m:Int} (hm:m = 0∨m = 1) {a b:List Int} (ha:dg 18446744073709551616 a) (hb:dg 18446744073709551616 b):∀ n,vs 18446744073709551616 (dgS m a b) n = vs 18446744073709551616 (at0 a) n - m * vs 18446744073709551616 (at0 b) n + cyS m a b n * 18446744073709551616 ^ n
  | 0 => by simp [vs,cyS]
  | n + 1 => by
    have ih:=subS hm ha hb n
    simp only [vs]
    have h:=cyS_bit (m:=m) (a:=a) (b:=b) n
    have h1:=at0_dg (by decide) ha n
    have h2:=at0_dg (by decide) hb n
    have h3:0≤m * at0 b n∧m * at0 b n < 18446744073709551616:=by rcases hm with rfl | rfl <;> omega
    have e:dgS m a b n = at0 a n - m * at0 b n - cyS m a b n + cyS m a b (n + 1) * 18446744073709551616:=by
      simp only [cyS,dgS,bor];split <;> omega
    rw [e]
    generalize cyS m a b (n + 1) = q at *
    have e2:q * 18446744073709551616 ^ (n + 1) = (q * 18446744073709551616) * 18446744073709551616 ^ n:=by rw [Int.pow_succ,Int.mul_comm (18446744073709551616 ^ n),Int.mul_assoc]
    rw [e2]
    have e4:m * (at0 b n * 18446744073709551616 ^ n) = m * at0 b n * 18446744073709551616 ^ n:=by rw [Int.mul_assoc]
    rw [Int.mul_add,e4]
    simp only [Int.add_mul,Int.sub_mul]
    omega
end Go.Proofs.Ytonpekldcnankaa.Ma
end
section
namespace Go.Proofs.Ytonpekldcnankaa.Ma
open Go.RowKit Go.Proofs.YtonpekldcnankaaW.PrintWords Go.Proofs.YtonpekldcnankaaW.PrintLast Go.Proofs.YtonpekldcnankaaW.PrintMore
theorem wf_u64 {a:Int}:(Lit.int .u64 a).wf = true ↔ 0≤a∧a < 18446744073709551616:=by
  simp [Lit.wf,IntKind.min,IntKind.max,IntKind.signed,IntKind.bits];omega
theorem wd_wf {a:Int}:(Lit.int .u64 a).wf = true ↔ wd a = true:=by rw [wf_u64,wd_iff]
theorem wU (n:Int):IntKind.u64.wrap n = n % 18446744073709551616:=IntKind.wrap_u64 n
theorem w64 {n:Int} (h:-9223372036854775808≤n) (h':n < 9223372036854775808):wrap64 n = n:=by unfold wrap64;omega
section
variable {a b:Int}
theorem b_and1 (h0:0≤a) (h1:a < 18446744073709551616):Go.bits .and .u64 a 1 = a % 2:=and_one_u64 a h0 (by omega)
theorem b_mask (k:Nat) (hk:k≤64) (h0:0≤a) (h1:a < 18446744073709551616) (hb:b = 2 ^ k - 1):Go.bits .and .u64 a b = a % 2 ^ k:=by
  have hp:(2:Int) ^ k≤18446744073709551616:=by
    have h:2 ^ k≤2 ^ 64:=Nat.pow_le_pow_right (by decide) hk
    have e:((2 ^ k:Nat):Int) = 2 ^ k:=by simp
    omega
  have hp0:(0:Int) < 2 ^ k:=Int.pow_pos (by decide)
  rw [u64_and a b h0 h1 (by omega) (by omega)]
  have e:b.toNat = 2 ^ k - 1:=by
    have:((2 ^ k:Nat):Int) = 2 ^ k:=by simp
    omega
  rw [e,Nat.and_two_pow_sub_one_eq_mod]
  have e2:((a.toNat % 2 ^ k:Nat):Int) = (a.toNat:Int) % ((2 ^ k:Nat):Int):=by simp
  rw [e2,Int.toNat_of_nonneg h0]
  simp
theorem b_and_all (h0:0≤a) (h1:a < 18446744073709551616):Go.bits .and .u64 a 18446744073709551615 = a:=by
  rw [b_mask 64 (by decide) h0 h1 (by decide)];exact Int.emod_eq_of_lt h0 h1
theorem b_and_0 (h0:0≤a) (h1:a < 18446744073709551616):Go.bits .and .u64 a 0 = 0:=by
  rw [u64_and a 0 h0 h1 (by decide) (by decide)];simp
theorem b_andNot_all (h0:0≤a) (h1:a < 18446744073709551616):Go.bits .andNot .u64 a 18446744073709551615 = 0:=by
  rw [u64_andNot a _ h0 h1 (by decide) (by decide)];simp
theorem b_andNot_0 (h0:0≤a) (h1:a < 18446744073709551616):Go.bits .andNot .u64 a 0 = a:=by
  rw [u64_andNot a _ h0 h1 (by decide) (by decide)]
  have e:(18446744073709551615 - (0:Int).toNat) = 2 ^ 64 - 1:=by decide
  rw [e,Nat.and_two_pow_sub_one_eq_mod]
  omega
theorem b_or_0 (h0:0≤a) (h1:a < 18446744073709551616):Go.bits .or .u64 a 0 = a:=by
  rw [u64_or a 0 h0 h1 (by decide) (by decide)];simp;omega
theorem b_0_or (h0:0≤a) (h1:a < 18446744073709551616):Go.bits .or .u64 0 a = a:=by
  rw [u64_or 0 a (by decide) (by decide) h0 h1];simp;omega
theorem b_or_add (k:Nat) (h0:0≤a) (h1:a < 18446744073709551616) (h2:0≤b) (h3:b < 18446744073709551616) (ha:a % 2 ^ k = 0) (hb:b < 2 ^ k):Go.bits .or .u64 a b = a + b:=by
  rw [u64_or a b h0 h1 h2 h3,nat_join k]
  · omega
  · have e:((a.toNat % 2 ^ k:Nat):Int) = (a.toNat:Int) % ((2 ^ k:Nat):Int):=by simp
    rw [Int.toNat_of_nonneg h0] at e
    have e2:((2 ^ k:Nat):Int) = 2 ^ k:=by simp
    rw [e2,ha] at e
    exact_mod_cast e
  · have e2:((2 ^ k:Nat):Int) = 2 ^ k:=by simp
    have:(b.toNat:Int) < ((2 ^ k:Nat):Int):=by rw [Int.toNat_of_nonneg h2,e2];exact hb
    exact_mod_cast this
theorem b_xor (h0:0≤a) (h1:a < 18446744073709551616) (h2:0≤b) (h3:b < 18446744073709551616):Go.bits .xor .u64 a b = ((a.toNat ^^^ b.toNat:Nat):Int):=u64_xor a b h0 h1 h2 h3
end
theorem ev_const {α:Type} {x:Option α} {r:α} (h:x = some r):Ev (fun _ => x) r:=⟨0,fun _ _ => h⟩
theorem ev_bind {α β:Type} {g:Nat→Option α} {f:Nat→α→Option β} {a:α} {r:β} (h:Ev g a) (k:Ev (fun n => f n a) r):Ev (fun n => (g n).bind (f n)) r:=Ev.bind h k
theorem ev_bind0 {α β:Type} {x:Option α} {f:Nat→α→Option β} {a:α} {r:β} (h:x = some a) (k:Ev (fun n => f n a) r):Ev (fun n => x.bind (f n)) r:=by subst h;exact k
theorem ev_pos {α:Type} {c:Prop} [Decidable c] {f g:Nat→Option α} {r:α} (h:c) (k:Ev f r):Ev (fun n => if c then f n else g n) r:=by simpa only [if_pos h] using k
theorem ev_neg {α:Type} {c:Prop} [Decidable c] {f g:Nat→Option α} {r:α} (h:¬ c) (k:Ev g r):Ev (fun n => if c then f n else g n) r:=by simpa only [if_neg h] using k
end Go.Proofs.Ytonpekldcnankaa.Ma
end
section
namespace Go.Proofs.Ytonpekldcnankaa.X
open Go.RowKit Go.Proofs.YtonpekldcnankaaW.PrintWords Go.Proofs.YtonpekldcnankaaW.PrintLast Go.Proofs.YtonpekldcnankaaW.PrintMore
attribute [local go_sem] max2_int min2_int max_two min_two max_three min_three max_four min_four
set_option linter.unusedVariables false
set_option linter.unusedSimpArgs false
def nat_least.l0:Nat→List Int→Int→Option (Int)
 | 0,_,_ => none
 | k + 1,x0,x3 => if x3 > 0 then (if 0≤(wrap64 (x3 - 1)) then (if (wrap64 (x3 - 1)) < (x0.length:Int) then (if (rd x0 (wrap64 (x3 - 1))) = 0 then (nat_least.l0 k x0 (wrap64 (x3 - 1))) else (some x3)) else (none)) else (none)) else (some x3)
def nat_least.f (k:Nat) (l0:List Int):Option (Int):=nat_least.l0 k l0 (l0.length:Int)
set_option maxHeartbeats 8000000 in
set_option maxRecDepth 100000 in
theorem nat_least.calls (k:Nat) (A0:Option Addr) (c0:Nat) (l0:List Int) (r:Int) (w:World) (hr0:Kd.C (Kd.int .u64) w A0 l0.length l0) (hc0:l0.length≤c0) (h:nat_least.f k l0 = some r) :
  Calls Try.prog 127 #[.slice A0 l0.length c0] w fun e w' => e = .returned (.int .i64 r)∧Drawn0 w w':=by
 have HR0:=Aside0.mk hr0
 have HC0:=Aside0.mk hc0
 clear hr0 hc0
 have H:(nat_least.l0 k l0 (l0.length:Int)) = some r:=h
 clear h
 have H':=Aside0.mk H
 clear H
 go_enter Try.func127,Try.ntmps127
 go_wp2
 go_loopg [3] k (fun kq v3 w' => ∃ (x3_1:Int),v3 = .int .i64 x3_1∧Aside0 (nat_least.l0 kq l0 x3_1 = some r)∧Aside0 (kq≤k)∧Drawn0 w w')
 case atStart => exact ⟨((l0.length:Int)),(by first | rfl | (simp;done) | (simp [*];done)),H',⟨Nat.le_refl _⟩,by repeat (first | exact Drawn0.refl _ | apply Drawn0.step)⟩
 case round =>
  clear H'
  try clear c1
  obtain ⟨x3_1,rfl,HA,HK1,⟨m1,rfl⟩⟩:=hrel
  cases gk with
  | zero => exact absurd HA.out (by simp [nat_least.l0])
  | succ k1 =>
   have H:=HA.out
   clear HA
   simp only [nat_least.l0] at H
   by_cases c2:x3_1 > 0
   ·
    rw [if_pos c2] at H
    have c2b0:decide (0 < x3_1) = true:=decide_eq_true c2
    clear c2
    obtain ⟨ji3,hji3⟩:∃ j_:Int,(wrap64 (x3_1 - 1)) = j_:=⟨_,rfl⟩
    replace H:(if 0≤(ji3) then (if (ji3) < (l0.length:Int) then (if (rd l0 (ji3)) = 0 then (nat_least.l0 k1 l0 ji3) else (some x3_1)) else (none)) else (none)) = some r:=by first | (rw [hji3] at H;exact H) | (simp only [hji3] at H ⊢;exact H)
    have hji3w:(IntKind.i64.wrap (x3_1 - 1)) = ji3:=(i64_w _).trans hji3
    by_cases c4:0≤(ji3)
    ·
     rw [if_pos c4] at H
     have c4b0:decide (0≤(ji3)) = true:=decide_eq_true c4
     clear c4
     by_cases c5:(ji3) < (l0.length:Int)
     ·
      rw [if_pos c5] at H
      have c5b0:decide ((ji3) < (l0.length:Int)) = true:=decide_eq_true c5
      clear c5
      by_cases c6:(rd l0 (ji3)) = 0
      ·
       rw [if_pos c6] at H
       have c6b0:((rd l0 (ji3)) == 0) = true:=beq_iff_eq.mpr c6
       have c6b1:((rd l0 (ji3)) != 0) = false:=bne_eq_false_iff_eq.mpr c6
       clear c6
       have H':=Aside0.mk H
       clear H
       have p190:0≤((ji3):Int):=of_decide_eq_true vD
       have q190:(ji3) < (l0.length:Int):=of_decide_eq_true vD
       obtain ⟨ad190,e190,hx190_0⟩:=Kd.at_int HR0.out (ji3) p190 q190
       cases e190
       replace p190:=eq_true p190
       replace q190:=eq_true q190
       go_wp2
       go_roundg k1
       case measure => have:=HK1.out;omega
       case rel => exact ⟨(ji3),(by first | rfl | (simp;done) | (simp only [← hji3] <;> (first | rfl | simp)) | (simp [*];done)),H',⟨by have:=HK1.out;omega⟩,by repeat (first | exact Drawn0.refl _ | apply Drawn0.step)⟩
      ·
       rw [if_neg c6] at H
       have c6b0:((rd l0 (ji3)) == 0) = false:=beq_eq_false_iff_ne.mpr c6
       have c6b1:((rd l0 (ji3)) != 0) = true:=bne_iff_ne.mpr c6
       obtain rfl:=Option.some.inj H
       have p190:0≤((ji3):Int):=of_decide_eq_true vD
       have q190:(ji3) < (l0.length:Int):=of_decide_eq_true vD
       obtain ⟨ad190,e190,hx190_0⟩:=Kd.at_int HR0.out (ji3) p190 q190
       cases e190
       replace p190:=eq_true p190
       replace q190:=eq_true q190
       go_wp2
       go_ret
       exact ⟨by first | rfl | (simp;done) | (simp only [← hji3] <;> (first | rfl | simp)) | (simp [*];done),by repeat (first | exact Drawn0.refl _ | apply Drawn0.step)⟩
     ·
      rw [if_neg c5] at H
      exact absurd H (by simp)
    ·
     rw [if_neg c4] at H
     exact absurd H (by simp)
   ·
    rw [if_neg c2] at H
    have c2b0:decide (0 < x3_1) = false:=decide_eq_false c2
    clear c2
    obtain rfl:=Option.some.inj H
    go_wp2
    go_ret
    exact ⟨by first | rfl | (simp;done) | (simp [*];done),by repeat (first | exact Drawn0.refl _ | apply Drawn0.step)⟩
end Go.Proofs.Ytonpekldcnankaa.X
end
section
namespace Go.Proofs.Ytonpekldcnankaa.Ma
def num (B:Nat):List Int→Nat
  | [] => 0
  | x :: l => x.toNat + B * num B l
def dgs (B:Nat):Nat→Nat→List Int
  | 0,_ => []
  | n + 1,x => ((x % B:Nat):Int) :: dgs B n (x / B)
theorem dgs_length (B:Nat):∀ n x,(dgs B n x).length = n
  | 0,_ => rfl
  | n + 1,x => by simp [dgs,dgs_length B n]
theorem dgs_dg {B:Nat} (hB:0 < B):∀ n x,dg B (dgs B n x)
  | 0,_ => dg_nil
  | n + 1,x => by
    rw [dgs,dg_cons]
    have:=Nat.mod_lt x hB
    exact ⟨⟨by omega,by omega⟩,dgs_dg hB n _⟩
theorem num_dgs {B:Nat}:∀ n x,num B (dgs B n x) = x % B ^ n
  | 0,x => by simp [dgs,num,Nat.mod_one]
  | n + 1,x => by
    rw [dgs,num,num_dgs n,Int.toNat_natCast,Nat.pow_succ,Nat.mul_comm (B ^ n),Nat.mod_mul]
theorem dgs_num {B:Nat}:∀ {l:List Int},dg B l→dgs B l.length (num B l) = l
  | [],_ => rfl
  | x :: l,h => by
    obtain ⟨⟨h0,h1⟩,h2⟩:=dg_cons.1 h
    have hx:x.toNat < B:=by omega
    rw [List.length_cons,dgs,num,Nat.add_mul_mod_self_left,Nat.mod_eq_of_lt hx,Nat.add_mul_div_left _ _ (by omega),Nat.div_eq_of_lt hx,Nat.zero_add,dgs_num h2,Int.toNat_of_nonneg h0]
theorem num_lt {B:Nat}:∀ {l:List Int},dg B l→num B l < B ^ l.length
  | [],_ => by simp [num]
  | x :: l,h => by
    obtain ⟨⟨h0,h1⟩,h2⟩:=dg_cons.1 h
    have:=num_lt h2
    rw [num,List.length_cons,Nat.pow_succ]
    have h3:B * (num B l + 1)≤B * B ^ l.length:=Nat.mul_le_mul_left _ this
    rw [Nat.mul_add,Nat.mul_one,Nat.mul_comm B (B ^ l.length)] at h3
    omega
theorem val_num {B:Nat}:∀ {l:List Int},dg B l→val B l = (num B l:Int)
  | [],_ => rfl
  | x :: l,h => by
    obtain ⟨⟨h0,h1⟩,h2⟩:=dg_cons.1 h
    rw [val_cons,val_num h2,num]
    simp only [Int.natCast_add,Int.natCast_mul,Int.toNat_of_nonneg h0]
theorem dgs_mod {B:Nat}:∀ n x,dgs B n (x % B ^ n) = dgs B n x
  | 0,_ => rfl
  | n + 1,x => by
    rw [dgs,dgs,Nat.pow_succ]
    have e1:x % (B ^ n * B) % B = x % B:=Nat.mod_mod_of_dvd _ ⟨B ^ n,Nat.mul_comm _ _⟩
    have e2:x % (B ^ n * B) / B = x / B % B ^ n:=by rw [Nat.mul_comm (B ^ n),Nat.mod_mul_right_div_self]
    rw [e1,e2,dgs_mod n]
theorem dgs_append {B:Nat}:∀ n m x,dgs B (n + m) x = dgs B n x ++ dgs B m (x / B ^ n)
  | 0,m,x => by simp [dgs]
  | n + 1,m,x => by
    rw [show n + 1 + m = (n + m) + 1 by omega,dgs,dgs,dgs_append n m,List.cons_append,Nat.div_div_eq_div_mul,Nat.pow_succ,Nat.mul_comm B]
theorem dgs_snoc {B:Nat} (n x:Nat):dgs B (n + 1) x = dgs B n x ++ [((x / B ^ n % B:Nat):Int)]:=by
  rw [dgs_append n 1];rfl
theorem at0_dgs {B:Nat}:∀ {n i:Nat} (x:Nat),i < n→at0 (dgs B n x) i = ((x / B ^ i % B:Nat):Int)
  | n + 1,0,x,_ => by simp [dgs,at0]
  | n + 1,i + 1,x,h => by
    have:=at0_dgs (B:=B) (x / B) (show i < n by omega)
    rw [Nat.div_div_eq_div_mul,← Nat.pow_succ'] at this
    rw [← this];simp [dgs,at0]
theorem at0_dgs' {B n:Nat} {x:Nat} (hx:x < B ^ n) (hB:0 < B) (i:Nat):at0 (dgs B n x) i = ((x / B ^ i % B:Nat):Int):=by
  by_cases h:i < n
  · exact at0_dgs x h
  · have:x / B ^ i = 0:=Nat.div_eq_of_lt (Nat.lt_of_lt_of_le hx (Nat.pow_le_pow_right hB (by omega)))
    rw [at0_ge (by rw [dgs_length];omega),this];simp
theorem dgs_set {B:Nat} (x:Nat) {n i:Nat} (h:i < n) (y:Int) (hy:y = ((x / B ^ i % B:Nat):Int)):(dgs B i x ++ List.replicate (n - i) 0).set i y = dgs B (i + 1) x ++ List.replicate (n - (i + 1)) 0:=by
  rw [dgs_snoc,List.set_append_right _ _ (by rw [dgs_length];exact Nat.le_refl _),dgs_length,Nat.sub_self]
  obtain ⟨d,hd⟩:∃ d,n - i = d + 1:=⟨n - i - 1,by omega⟩
  rw [hd,show n - (i + 1) = d by omega,List.replicate_succ,List.set_cons_zero,List.append_assoc,hy]
  rfl
theorem dgs_full_length {B:Nat} (x:Nat) {n i:Nat} (h:i≤n):(dgs B i x ++ List.replicate (n - i) (0:Int)).length = n:=by
  rw [List.length_append,dgs_length,List.length_replicate];omega
theorem dgs_zero {B:Nat}:∀ n,dgs B n 0 = List.replicate n 0
  | 0 => rfl
  | n + 1 => by rw [dgs,Nat.zero_div,dgs_zero n,List.replicate_succ];simp
theorem num_append {B:Nat}:∀ (a b:List Int),num B (a ++ b) = num B a + B ^ a.length * num B b
  | [],b => by simp [num]
  | x :: a,b => by rw [List.cons_append,num,num,num_append a b,List.length_cons,Nat.mul_add,Nat.pow_succ',Nat.add_assoc,Nat.mul_assoc]
theorem num_snoc {B:Nat} (a:List Int) (x:Int):num B (a ++ [x]) = num B a + B ^ a.length * x.toNat:=by rw [num_append];simp [num]
theorem num_replicate {B:Nat}:∀ n,num B (List.replicate n 0) = 0
  | 0 => rfl
  | n + 1 => by rw [List.replicate_succ,num,num_replicate n];simp
theorem dgs_eq {B:Nat} {l:List Int} {n x:Nat} (hl:dg B l) (hn:l.length = n) (h:num B l % B ^ n = x % B ^ n):l = dgs B n x:=by
  rw [← dgs_num hl,hn,← dgs_mod n (num B l),h,dgs_mod]
theorem num_take {B:Nat} {l:List Int} (h:dg B l) (i:Nat):num B (l.take i) = num B l % B ^ i:=by
  by_cases hi:i≤l.length
  · have e:l = l.take i ++ l.drop i:=(List.take_append_drop i l).symm
    have hl:(l.take i).length = i:=by simp [hi]
    have hd:dg B (l.take i):=fun x hx => h x (List.mem_of_mem_take hx)
    have hlt:=num_lt hd
    rw [hl] at hlt
    conv => rhs;rw [e,num_append,hl,Nat.add_mul_mod_self_left,Nat.mod_eq_of_lt hlt]
  · rw [List.take_of_length_le (by omega)]
    by_cases hB:B = 0
    · subst hB
      cases l with
      | nil => simp [num]
      | cons x l => have:=(dg_cons.1 h).1;omega
    · exact (Nat.mod_eq_of_lt (Nat.lt_of_lt_of_le (num_lt h) (Nat.pow_le_pow_right (by omega) (by omega)))).symm
theorem at0_set {l:List Int} {i:Nat} (h:i < l.length) (y:Int) (j:Nat):at0 (l.set i y) j = if j = i then y else at0 l j:=by
  unfold at0
  by_cases e:j = i
  · subst e;simp [h]
  · rw [if_neg e];simp [List.getD_eq_getElem?_getD,List.getElem?_set_ne (Ne.symm e)]
theorem dg_set {B:Int} {l:List Int} (hl:dg B l) {y:Int} (hy:0≤y∧y < B) (i:Nat):dg B (l.set i y):=by
  intro x hx
  rcases List.mem_or_eq_of_mem_set hx with h | h
  · exact hl x h
  · exact h ▸ hy
theorem num_set {B:Nat}:∀ {l:List Int} {i:Nat} (y:Int),i < l.length→num B (l.set i y) + (at0 l i).toNat * B ^ i = num B l + y.toNat * B ^ i
  | x :: l,0,y,_ => by simp [num,at0];omega
  | x :: l,i + 1,y,h => by
    have ih:=num_set (B:=B) (l:=l) (i:=i) y (by simpa using h)
    have e:at0 (x :: l) (i + 1) = at0 l i:=by simp [at0]
    rw [List.set_cons_succ,num,num,e]
    have e1:(at0 l i).toNat * B ^ (i + 1) = B * ((at0 l i).toNat * B ^ i):=by rw [Nat.pow_succ];ac_rfl
    have e2:y.toNat * B ^ (i + 1) = B * (y.toNat * B ^ i):=by rw [Nat.pow_succ];ac_rfl
    rw [e1,e2,Nat.add_assoc,← Nat.mul_add,ih,Nat.mul_add];omega
theorem at0_num {B:Nat} (hB:0 < B) {l:List Int} (h:dg B l) (i:Nat):at0 l i = ((num B l / B ^ i % B:Nat):Int):=by
  conv => lhs;rw [← dgs_num h]
  exact at0_dgs' (num_lt h) hB i
theorem mul_step {B x c S i j:Nat} {out b:List Int} (h:num B out + c * B ^ (i + j) = S + x * (num B b % B ^ j) * B ^ i) (ho:i + j < out.length) :
    num B (out.set (i + j) (((x * (num B b / B ^ j % B) + (at0 out (i + j)).toNat + c) % B:Nat):Int)) + ((x * (num B b / B ^ j % B) + (at0 out (i + j)).toNat + c) / B) * B ^ (i + (j + 1)) = S + x * (num B b % B ^ (j + 1)) * B ^ i:=by
  have hs:=num_set (B:=B) (((x * (num B b / B ^ j % B) + (at0 out (i + j)).toNat + c) % B:Nat):Int) ho
  have em:num B b % B ^ (j + 1) = num B b % B ^ j + B ^ j * (num B b / B ^ j % B):=by rw [Nat.pow_succ,Nat.mod_mul]
  rw [em]
  generalize num B b / B ^ j % B = y at *
  generalize (at0 out (i + j)).toNat = o at *
  generalize num B b % B ^ j = r at *
  have ht:=Nat.div_add_mod (x * y + o + c) B
  rw [Int.toNat_natCast] at hs
  generalize ht1:(x * y + o + c) / B = q at *
  generalize ht2:(x * y + o + c) % B = d at *
  have ep:B ^ (i + (j + 1)) = B * B ^ (i + j):=by rw [← Nat.add_assoc,Nat.pow_succ,Nat.mul_comm]
  have e3:x * (r + B ^ j * y) * B ^ i = x * r * B ^ i + x * y * B ^ (i + j):=by rw [Nat.pow_add,Nat.mul_add,Nat.add_mul];congr 1;ac_rfl
  rw [ep,e3]
  have e4:q * (B * B ^ (i + j)) = (B * q) * B ^ (i + j):=by ac_rfl
  have e5:(B * q + d) * B ^ (i + j) = (B * q) * B ^ (i + j) + d * B ^ (i + j):=by rw [Nat.add_mul]
  have e6:(x * y + o + c) * B ^ (i + j) = x * y * B ^ (i + j) + o * B ^ (i + j) + c * B ^ (i + j):=by rw [Nat.add_mul,Nat.add_mul]
  rw [ht] at e5
  rw [e4]
  generalize num B (out.set (i + j) (d:Int)) = N1 at *
  omega
theorem zero_set {l:List Int} {i n:Nat} (h:i < l.length) (hi:i < n) (y:Int) (hz:∀ t,n≤t→at0 l t = 0):∀ t,n≤t→at0 (l.set i y) t = 0:=by
  intro t ht;rw [at0_set h,if_neg (by omega),hz t ht]
abbrev H:Nat:=4294967296
abbrev W:Nat:=18446744073709551616
def blen (x:Nat):Nat:=if x = 0 then 0 else Nat.log2 x / 32 + 1
def big (x:Nat):List Int:=dgs 4294967296 (blen x) x
theorem big_length (x:Nat):(big x).length = blen x:=dgs_length _ _ _
theorem H_pow (n:Nat):4294967296 ^ n = 2 ^ (32 * n):=by rw [Nat.pow_mul]
theorem blen_lt (x:Nat):x < 4294967296 ^ blen x:=by
  unfold blen
  split
  · rename_i h;subst h;simp
  · rename_i h
    rw [H_pow]
    exact Nat.lt_of_lt_of_le Nat.lt_log2_self (Nat.pow_le_pow_right (by decide) (by omega))
theorem blen_ge {x:Nat} (h:x≠0):4294967296 ^ (blen x - 1)≤x:=by
  unfold blen
  rw [if_neg h,H_pow]
  exact Nat.le_trans (Nat.pow_le_pow_right (by decide) (by omega)) (Nat.log2_self_le h)
theorem blen_pos {x:Nat} (h:x≠0):0 < blen x:=by unfold blen;rw [if_neg h];omega
theorem blen_zero:blen 0 = 0:=rfl
theorem blen_le {x n:Nat} (h:x < 4294967296 ^ n):blen x≤n:=by
  by_cases hx:x = 0
  · subst hx;exact Nat.zero_le _
  · have h1:=Nat.lt_of_le_of_lt (blen_ge hx) h
    have h2:=(Nat.pow_lt_pow_iff_right (show 1 < 4294967296 by decide)).1 h1
    have:=blen_pos hx
    omega
theorem blen_mono {x y:Nat} (h:x≤y):blen x≤blen y:=blen_le (Nat.lt_of_le_of_lt h (blen_lt y))
theorem big_dg (x:Nat):dg ((4294967296:Nat):Int) (big x):=dgs_dg (by decide) _ _
theorem num_big (x:Nat):num 4294967296 (big x) = x:=by unfold big;rw [num_dgs,Nat.mod_eq_of_lt (blen_lt x)]
theorem at0_big (x i:Nat):at0 (big x) i = ((x / 4294967296 ^ i % 4294967296:Nat):Int):=at0_dgs' (blen_lt x) (by decide) i
theorem big_zero:big 0 = []:=rfl
theorem big_of {l:List Int} (h:dg ((4294967296:Nat):Int) l) (ht:l.length = 0∨at0 l (l.length - 1)≠0):l = big (num 4294967296 l):=by
  have hlt:=num_lt h
  have hle:blen (num 4294967296 l)≤l.length:=blen_le hlt
  have hge:l.length≤blen (num 4294967296 l):=by
    rcases ht with h0 | h0
    · omega
    · rcases Nat.lt_or_ge (blen (num 4294967296 l)) l.length with hc | hc
      · exfalso
        apply h0
        have e:=dgs_num h
        have hl:l.length≠0:=by omega
        rw [← e,dgs_length,at0_dgs _ (by omega),Nat.div_eq_of_lt]
        · simp
        · exact Nat.lt_of_lt_of_le (blen_lt _) (Nat.pow_le_pow_right (by decide) (by omega))
      · exact hc
  have e:blen (num 4294967296 l) = l.length:=by omega
  unfold big
  rw [e,dgs_num h]
end Go.Proofs.Ytonpekldcnankaa.Ma
end
section
namespace Go.Proofs.Ytonpekldcnankaa.X
open Go.RowKit Go.Proofs.YtonpekldcnankaaW.PrintWords Go.Proofs.YtonpekldcnankaaW.PrintLast Go.Proofs.YtonpekldcnankaaW.PrintMore Go.Proofs.Ytonpekldcnankaa.Ma
set_option linter.unusedVariables false
theorem info_u64:(Try.prog.info? 24).map (fun i => (i.zero,i.size,i.bytes)) = some (some (.int .u64 0),1,8):=by kernel_rfl
def Zs (n:Nat):Array Value:=madeCells (Value.int .u64 0).cells n
theorem run_make_nat (n:Nat) (hn:n≤35184372088832) (W:World):(Instr.makeSlice 23 (.int .i64 (n:Int)) (.int .i64 (n:Int))).run Try.prog W = .ok (.slice (some ⟨W.heap.size,0,none⟩) n n) (W.alloc (.cells (Zs n) 24)):=by
  obtain ⟨i0,hi,hz,hs,hb⟩:=info_parts info_u64
  have h:=run_make (P:=Try.prog) W 23 24 i0 (.int .u64 0) Try.underlying23 hi hz .i64 .i64 (n:Int) (n:Int) (by omega) (by omega) (by rw [hb];omega) (by omega)
  rw [hs,Nat.mul_one,Int.toNat_natCast] at h
  exact h
theorem Zs_size (n:Nat):(Zs n).size = n:=size_madeCells _ _
theorem Zs_list (n:Nat):(Zs n).toList = encs (Value.int .u64) (List.replicate n 0):=by
  apply List.ext_getElem
  · simp [Zs_size,encs]
  · intro i h1 h2
    simp [Zs,madeCells,encs,Value.cells,Nat.mod_one]
theorem R_zs {W:World} {g base n:Nat} {ok:Nat→Prop} (h:W.heap[g]? = some (.cells (Zs n) 24 (0,0))) (hb:base≤g) (hn:n≤35184372088832) (hok:ok g) :
    Kd.R (Kd.int .u64) 24 W base ok (.slice (some ⟨g,0,none⟩) n n) (List.replicate n 0):=by
  have e:(List.replicate n (0:Int)).length = n:=List.length_replicate
  have ho:W.ownsRow base 24 1 (.slice (some ⟨g,0,none⟩) (List.replicate n (0:Int)).length n) (List.replicate n (0:Int)).length (encs (Value.int .u64) (List.replicate n (0:Int))):=by
    rw [e]
    refine ⟨by simp [encs],.inr ⟨g,n,Zs n,rfl,hb,h,Nat.le_refl _,by unfold maxLen;omega,by rw [Zs_size,Nat.mul_one],?_⟩⟩
    rw [Zs_list,List.take_of_length_le (by simp [encs])]
  have h2:=Kd.R_of_own (h1:=fun _ => rfl) (ok:=ok) ho (fun k hk => (show g = k by simpa [Value.ownBlock] using hk) ▸ hok)
  rw [e] at h2
  exact h2
theorem run_shr64 (x:Int) (s:Nat) (hs:s < 64):∀ W:World,(Op.shift BinOp.shr .u64 x .i64 (s:Int)).run Try.prog W = .ok (.int .u64 (x / 2 ^ s)) W:=by
  intro W
  unfold Op.shift
  simp [go_sem]
  rw [if_neg (by omega),Nat.min_eq_left (by omega),Int.fdiv_eq_ediv_of_nonneg _ (Int.le_of_lt (Int.pow_pos (by decide)))]
theorem run_shl64 (x:Int) (s:Nat) (hs:s < 64):∀ W:World,(Op.shift BinOp.shl .u64 x .i64 (s:Int)).run Try.prog W = .ok (.int .u64 (IntKind.u64.wrap (x * 2 ^ s))) W:=by
  intro W
  unfold Op.shift
  simp [go_sem]
  rw [if_neg (by omega),Nat.min_eq_left (by omega)]
end Go.Proofs.Ytonpekldcnankaa.X
end
