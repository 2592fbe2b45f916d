/- Texts of the walk and of the plain laws, laid together by a program: Bt, X0, X6. -/
import Derived.Laws.BitsAllLaws
import Derived.Laws.Externs
import Derived.Lib.Hide
import Derived.Shelf.Spec.BitsCarry
import Derived.Test.YtonpekldcnankaaZv
import Derived.WalkSmall
import Derived.Test.YtonpekldcnankaaZQ1
import Derived.Test.YtonpekldcnankaaZQ2
import Derived.Test.YtonpekldcnankaaZQ6
section
namespace Go.Proofs.Ytonpekldcnankaa.Ma
open Go.RowKit Go.Proofs.YtonpekldcnankaaW.PrintWords Go.Proofs.YtonpekldcnankaaW.PrintLast Go.Proofs.YtonpekldcnankaaW.PrintMore
theorem wf_u64 {a:Int}:(Lit.int .u64 a).wf = true ↔ 0≤a∧a < 18446744073709551616:=by
  simp [Lit.wf,IntKind.min,IntKind.max,IntKind.signed,IntKind.bits];omega
theorem wU (n:Int):IntKind.u64.wrap n = n % 18446744073709551616:=IntKind.wrap_u64 n
theorem w64 {n:Int} (h:-9223372036854775808≤n) (h':n < 9223372036854775808):wrap64 n = n:=by unfold wrap64;omega
section
variable {a b:Int}
theorem b_and1 (h0:0≤a) (h1:a < 18446744073709551616):Go.bits .and .u64 a 1 = a % 2:=and_one_u64 a h0 (by omega)
theorem b_mask (k:Nat) (hk:k≤64) (h0:0≤a) (h1:a < 18446744073709551616) (hb:b = 2 ^ k - 1):Go.bits .and .u64 a b = a % 2 ^ k:=by
  have hp:(2:Int) ^ k≤18446744073709551616:=by
    have h:2 ^ k≤2 ^ 64:=Nat.pow_le_pow_right (by decide) hk
    have e:((2 ^ k:Nat):Int) = 2 ^ k:=by simp
    omega
  have hp0:(0:Int) < 2 ^ k:=Int.pow_pos (by decide)
  rw [u64_and a b h0 h1 (by omega) (by omega)]
  have e:b.toNat = 2 ^ k - 1:=by
    have:((2 ^ k:Nat):Int) = 2 ^ k:=by simp
    omega
  rw [e,Nat.and_two_pow_sub_one_eq_mod]
  have e2:((a.toNat % 2 ^ k:Nat):Int) = (a.toNat:Int) % ((2 ^ k:Nat):Int):=by simp
  rw [e2,Int.toNat_of_nonneg h0]
  simp
theorem b_and_all (h0:0≤a) (h1:a < 18446744073709551616):Go.bits .and .u64 a 18446744073709551615 = a:=by
  rw [b_mask 64 (by decide) h0 h1 (by decide)];exact Int.emod_eq_of_lt h0 h1
theorem b_and_0 (h0:0≤a) (h1:a < 18446744073709551616):Go.bits .and .u64 a 0 = 0:=by
  rw [u64_and a 0 h0 h1 (by decide) (by decide)];simp
theorem b_andNot_all (h0:0≤a) (h1:a < 18446744073709551616):Go.bits .andNot .u64 a 18446744073709551615 = 0:=by
  rw [u64_andNot a _ h0 h1 (by decide) (by decide)];simp
theorem b_andNot_0 (h0:0≤a) (h1:a < 18446744073709551616):Go.bits .andNot .u64 a 0 = a:=by
  rw [u64_andNot a _ h0 h1 (by decide) (by decide)]
  have e:(18446744073709551615 - (0:Int).toNat) = 2 ^ 64 - 1:=by decide
  rw [e,Nat.and_two_pow_sub_one_eq_mod]
  omega
theorem b_or_0 (h0:0≤a) (h1:a < 18446744073709551616):Go.bits .or .u64 a 0 = a:=by
  rw [u64_or a 0 h0 h1 (by decide) (by decide)];simp;omega
theorem b_0_or (h0:0≤a) (h1:a < 18446744073709551616):Go.bits .or .u64 0 a = a:=by
  rw [u64_or 0 a (by decide) (by decide) h0 h1];simp;omega
theorem b_or_add (k:Nat) (h0:0≤a) (h1:a < 18446744073709551616) (h2:0≤b) (h3:b < 18446744073709551616) (ha:a % 2 ^ k = 0) (hb:b < 2 ^ k):Go.bits .or .u64 a b = a + b:=by
  rw [u64_or a b h0 h1 h2 h3,nat_join k]
  · omega
  · have e:((a.toNat % 2 ^ k:Nat):Int) = (a.toNat:Int) % ((2 ^ k:Nat):Int):=by simp
    rw [Int.toNat_of_nonneg h0] at e
    have e2:((2 ^ k:Nat):Int) = 2 ^ k:=by simp
    rw [e2,ha] at e
    exact_mod_cast e
  · have e2:((2 ^ k:Nat):Int) = 2 ^ k:=by simp
    have:(b.toNat:Int) < ((2 ^ k:Nat):Int):=by rw [Int.toNat_of_nonneg h2,e2];exact hb
    exact_mod_cast this
theorem b_xor (h0:0≤a) (h1:a < 18446744073709551616) (h2:0≤b) (h3:b < 18446744073709551616):Go.bits .xor .u64 a b = ((a.toNat ^^^ b.toNat:Nat):Int):=u64_xor a b h0 h1 h2 h3
end
theorem ev_const {α:Type} {x:Option α} {r:α} (h:x = some r):Ev (fun _ => x) r:=⟨0,fun _ _ => h⟩
theorem ev_bind {α β:Type} {g:Nat→Option α} {f:Nat→α→Option β} {a:α} {r:β} (h:Ev g a) (k:Ev (fun n => f n a) r):Ev (fun n => (g n).bind (f n)) r:=Ev.bind h k
theorem ev_bind0 {α β:Type} {x:Option α} {f:Nat→α→Option β} {a:α} {r:β} (h:x = some a) (k:Ev (fun n => f n a) r):Ev (fun n => x.bind (f n)) r:=by subst h;exact k
theorem ev_pos {α:Type} {c:Prop} [Decidable c] {f g:Nat→Option α} {r:α} (h:c) (k:Ev f r):Ev (fun n => if c then f n else g n) r:=by simpa only [if_pos h] using k
theorem ev_neg {α:Type} {c:Prop} [Decidable c] {f g:Nat→Option α} {r:α} (h:¬ c) (k:Ev g r):Ev (fun n => if c then f n else g n) r:=by simpa only [if_neg h] using k
end Go.Proofs.Ytonpekldcnankaa.Ma
end
section
namespace Go.Proofs.Ytonpekldcnankaa.X
open Go.RowKit Go.Proofs.YtonpekldcnankaaW.PrintWords Go.Proofs.YtonpekldcnankaaW.PrintLast Go.Proofs.YtonpekldcnankaaW.PrintMore
attribute [local go_sem] max2_int min2_int max_two min_two max_three min_three max_four min_four
set_option linter.unusedVariables false
set_option linter.unusedSimpArgs false
def errW:Option Int→Value
 | none => .nilIface
 | some c => .iface 0 (.int .i64 c)
theorem errW_none:errW none = .nilIface:=rfl
theorem errW_some (c:Int):errW (some c) = .iface 0 (.int .i64 c):=rfl
theorem info24:(Try.prog.info? 24).map (fun i => (i.zero,i.size,i.bytes)) = some (some (.int .u64 0),1,8):=by kernel_rfl
theorem info83:(Try.prog.info? 83).map (fun i => (i.zero,i.size,i.bytes)) = some (some (.int .u32 0),1,4):=by kernel_rfl
def rd_L2 (xs:List (List Int)) (i:Int):(List Int):=xs.getD i.toNat ([]:List Int)
theorem at_L2 {w:World} {A:Option Addr} {n:Nat} {xs:List (List Int)} (h:Kd.C (Kd.slice 24 (Kd.int .u64)) w A n xs) (i:Int) (h0:0≤i) (h1:i < n):∃ ad A0 c0,A = some ad∧w.cell? (ad.add i.toNat) = some (.slice A0 (rd_L2 xs i).length c0)∧(rd_L2 xs i).length≤c0∧(Kd.int .u64).C w A0 (rd_L2 xs i).length (rd_L2 xs i):=by
 obtain ⟨ad,c,e,_,hK,hc0⟩:=Kd.C_get h ([]:List Int) i h0 h1
 have hc:∀ j u,c[j]? = some u→w.cell? (ad.add (i.toNat * 1 + j)) = some u:=hc0
 obtain ⟨A0,c0,rfl,l0,g0⟩:=hK
 exact ⟨ad,A0,c0,e,by have hq:=hc 0 _ rfl;rwa [Nat.mul_one,Nat.add_zero] at hq,l0,g0⟩
structure S26 where
 f0:(List Int)
 f1:Int
 f2:(List Int)
end Go.Proofs.Ytonpekldcnankaa.X
end
section
namespace Go.Proofs.Ytonpekldcnankaa.X
open Go.RowKit Go.Proofs.YtonpekldcnankaaW.PrintWords Go.Proofs.YtonpekldcnankaaW.PrintLast Go.Proofs.YtonpekldcnankaaW.PrintMore
attribute [local go_sem] max2_int min2_int max_two min_two max_three min_three max_four min_four
set_option linter.unusedVariables false
set_option linter.unusedSimpArgs false
def bits_Len64.f (a0:Int):Option Int:=if 0≤a0∧a0≤18446744073709551615 then some (Lib.bitLen a0.toNat:Int) else none
theorem bits_Len64.calls (a0 r:Int) (w:World) (h:bits_Len64.f a0 = some r) :
  Calls Try.prog 128 #[.int .u64 a0] w fun e w' => e = .returned (.int .i64 r)∧Drawn0 w w':=by
 unfold bits_Len64.f at h
 split at h
 ·
  rename_i hc
  obtain rfl:=Option.some.inj h
  exact (bl_Len64 a0 w hc.1 hc.2).mono fun e w' q => ⟨q.1,by rw [q.2];exact Drawn0.refl _⟩
 ·
  exact absurd h (by simp)
end Go.Proofs.Ytonpekldcnankaa.X
end
