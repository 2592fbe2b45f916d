/- Texts of the walk and of the plain laws, laid together by a program: Sp3. -/
import Derived.Test.YtonpekldcnankaaZI0
import Derived.Test.YtonpekldcnankaaZI1
import Derived.Test.YtonpekldcnankaaZI2
import Derived.Test.YtonpekldcnankaaZI5
import Derived.Test.YtonpekldcnankaaZI6
import Derived.Test.YtonpekldcnankaaZI12
import Derived.Test.YtonpekldcnankaaZI13
import Derived.Test.YtonpekldcnankaaZI14
import Derived.Test.YtonpekldcnankaaZI11
namespace Go.Proofs.Ytonpekldcnankaa.X
open Go.RowKit Go.Proofs.YtonpekldcnankaaW.PrintWords Go.Proofs.YtonpekldcnankaaW.PrintLast Go.Proofs.YtonpekldcnankaaW.PrintMore Go.Proofs.Ytonpekldcnankaa.Ma
set_option linter.unusedVariables false
theorem rdA (l:List Int) (i:Nat):rd l (i:Int) = at0 l i:=by simp [rd,at0]
theorem w64_succ {i:Nat} (h:i < 9223372036854775807):wrap64 ((i:Int) + 1) = ((i + 1:Nat):Int):=by rw [w64 (by omega) (by omega)];omega
theorem sp_digit (l:List Int) (i:Nat):sconceref03_digit.f l (i:Int) = some (at0 l i):=by
  unfold sconceref03_digit.f
  by_cases h:i < l.length
  · rw [if_pos (by omega),if_pos (by omega),rdA]
  · rw [if_neg (by omega),at0_ge (by omega)]
theorem sp_digit_big (x i:Nat):sconceref03_digit.f (big x) (i:Int) = some ((x / 4294967296 ^ i % 4294967296:Nat):Int):=by rw [sp_digit,at0_big]
theorem trim_loop:∀ (n:Nat) (l:List Int),l.length = n→n≤1000000000000→dg ((4294967296:Nat):Int) l→Ev (fun k => sconceref03_trim.l0 k l) (big (num 4294967296 l)):=by
  intro n
  induction n with
  | zero =>
    intro l hl _ hd
    have:l = []:=List.eq_nil_of_length_eq_zero hl
    subst this
    refine Ev.step (f:=fun _ => some []) (fun k => by rw [sconceref03_trim.l0,if_neg (by simp)]) ?_
    exact ev_const rfl
  | succ n ih =>
    intro l hl hn hd
    have e1:wrap64 ((l.length:Int) - 1) = (n:Int):=by rw [w64 (by omega) (by omega)];omega
    refine Ev.step (fun k => by rw [sconceref03_trim.l0,e1,rdA]) ?_
    refine ev_pos (by omega) (ev_pos (by omega) (ev_pos (by omega) ?_))
    by_cases hz:at0 l n = 0
    · refine ev_pos hz (ev_pos (by omega) ?_)
      rw [Int.toNat_natCast]
      have hd':dg ((4294967296:Nat):Int) (l.take n):=fun x hx => hd x (List.mem_of_mem_take hx)
      have e:l = l.take n ++ [0]:=by
        have h2:l = l.take n ++ l.drop n:=(List.take_append_drop n l).symm
        have h3:l.drop n = [at0 l n]:=by
          rw [List.drop_eq_getElem_cons (by omega),List.drop_of_length_le (by omega),at0_lt (by omega)]
        rw [h3,hz] at h2;exact h2
      have e2:num 4294967296 l = num 4294967296 (l.take n):=by
        conv => lhs;rw [e,num_snoc]
        simp
      rw [e2]
      exact ih (l.take n) (by rw [List.length_take];omega) (by omega) hd'
    · refine ev_neg hz (ev_const ?_)
      rw [← big_of hd (.inr (by rw [hl];exact hz))]
theorem sp_trim {l:List Int} (hd:dg ((4294967296:Nat):Int) l) (hn:l.length≤1000000000000):Ev (fun k => sconceref03_trim.f k l) (big (num 4294967296 l)):=by
  unfold sconceref03_trim.f
  exact trim_loop _ l rfl hn hd
theorem sp_trim' {l:List Int} {x:Nat} (hd:dg ((4294967296:Nat):Int) l) (hn:l.length≤1000000000000) (hx:num 4294967296 l = x):Ev (fun k => sconceref03_trim.f k l) (big x):=by
  subst hx;exact sp_trim hd hn
theorem dg_pair {a b:Int} (ha:0≤a∧a < 4294967296) (hb:0≤b∧b < 4294967296):dg ((4294967296:Nat):Int) [a,b]:=by
  rw [dg_cons,dg_cons];exact ⟨ha,hb,dg_nil⟩
theorem sp_Small {w:Nat} (hw:w < 18446744073709551616):Ev (fun k => sconceref03_Small.f k (w:Int)) (big w):=by
  unfold sconceref03_Small.f
  refine ev_bind (sp_trim' (x:=w) (dg_pair (by omega) (by omega)) (by simp) ?_) (ev_const rfl)
  simp only [num];omega
theorem carry_step (x y Q:Nat) (hQ:0 < Q):(x + y) / Q = x / Q + y / Q + (x % Q + y % Q) / Q:=by
  have h1:=Nat.div_add_mod x Q
  have h2:=Nat.div_add_mod y Q
  have e:x + y = (x % Q + y % Q) + Q * (x / Q + y / Q):=by rw [Nat.mul_add];omega
  conv => lhs;rw [e,Nat.add_mul_div_left _ _ hQ]
  omega
theorem carry_next (x y i:Nat):(x % 4294967296 ^ (i + 1) + y % 4294967296 ^ (i + 1)) / 4294967296 ^ (i + 1) = (x / 4294967296 ^ i % 4294967296 + y / 4294967296 ^ i % 4294967296 + (x % 4294967296 ^ i + y % 4294967296 ^ i) / 4294967296 ^ i) / 4294967296:=by
  have hQ:0 < 4294967296 ^ i:=Nat.pow_pos (by decide)
  have e1:x % 4294967296 ^ (i + 1) = x % 4294967296 ^ i + 4294967296 ^ i * (x / 4294967296 ^ i % 4294967296):=by rw [Nat.pow_succ,Nat.mod_mul]
  have e2:y % 4294967296 ^ (i + 1) = y % 4294967296 ^ i + 4294967296 ^ i * (y / 4294967296 ^ i % 4294967296):=by rw [Nat.pow_succ,Nat.mod_mul]
  rw [e1,e2,Nat.pow_succ,← Nat.div_div_eq_div_mul]
  congr 1
  have e3:x % 4294967296 ^ i + 4294967296 ^ i * (x / 4294967296 ^ i % 4294967296) + (y % 4294967296 ^ i + 4294967296 ^ i * (y / 4294967296 ^ i % 4294967296)) = (x % 4294967296 ^ i + y % 4294967296 ^ i) + 4294967296 ^ i * (x / 4294967296 ^ i % 4294967296 + y / 4294967296 ^ i % 4294967296):=by rw [Nat.mul_add];omega
  rw [e3,Nat.add_mul_div_left _ _ hQ];omega
theorem carry_lt (x y Q:Nat) (hQ:0 < Q):(x % Q + y % Q) / Q < 2:=by
  have h1:=Nat.mod_lt x hQ
  have h2:=Nat.mod_lt y hQ
  exact (Nat.div_lt_iff_lt_mul hQ).2 (by omega)
theorem ref_Add_loop (x y:Nat) (hx:blen x≤1000000000) (hy:blen y≤1000000000):∀ (d i:Nat),i + d = max (blen x) (blen y) →
    Ev (fun k => sconceref03_Add.l0 k (big x) (big y) (dgs 4294967296 i (x + y)) (((x % 4294967296 ^ i + y % 4294967296 ^ i) / 4294967296 ^ i:Nat):Int) (i:Int)) (big (x + y)):=by
  intro d
  induction d with
  | zero =>
    intro i hi
    have hc:=carry_lt x y (4294967296 ^ i) (Nat.pow_pos (by decide))
    have hend:Ev (fun k => sconceref03_Add.j1 k (big x) (big y) (dgs 4294967296 i (x + y)) (((x % 4294967296 ^ i + y % 4294967296 ^ i) / 4294967296 ^ i:Nat):Int) (i:Int) false) (big (x + y)):=by
      refine Ev.step (fun k => by rw [sconceref03_Add.j1]) (ev_neg (by simp) (ev_pos (by rw [dgs_length];omega) ?_))
      refine ev_bind (sp_trim' (x:=x + y) ?_ ?_ ?_) (ev_const rfl)
      · rw [dg_append];exact ⟨dgs_dg (by decide) _ _,by rw [dg_cons];exact ⟨by omega,dg_nil⟩⟩
      · rw [List.length_append,dgs_length];simp;omega
      · rw [num_snoc,num_dgs,dgs_length]
        have hxq:x / 4294967296 ^ i = 0:=Nat.div_eq_of_lt (Nat.lt_of_lt_of_le (blen_lt x) (Nat.pow_le_pow_right (by decide) (by omega)))
        have hyq:y / 4294967296 ^ i = 0:=Nat.div_eq_of_lt (Nat.lt_of_lt_of_le (blen_lt y) (Nat.pow_le_pow_right (by decide) (by omega)))
        have hs:=carry_step x y (4294967296 ^ i) (Nat.pow_pos (by decide))
        simp only [hxq,hyq,Nat.zero_add] at hs
        have hm:=Nat.div_add_mod (x + y) (4294967296 ^ i)
        rw [hs] at hm
        generalize (x % 4294967296 ^ i + y % 4294967296 ^ i) / 4294967296 ^ i = c at *
        rw [show ((c:Int) % 4294967296).toNat = c by omega]
        omega
    refine Ev.step (fun k => by rw [sconceref03_Add.l0]) (ev_neg (by rw [big_length];omega) ?_)
    rw [show decide ((i:Int) < ((big y).length:Int)) = false from decide_eq_false (by rw [big_length];omega)]
    exact hend
  | succ d ih =>
    intro i hi
    have hj:Ev (fun k => sconceref03_Add.j1 k (big x) (big y) (dgs 4294967296 i (x + y)) (((x % 4294967296 ^ i + y % 4294967296 ^ i) / 4294967296 ^ i:Nat):Int) (i:Int) true) (big (x + y)):=by
      refine Ev.step (fun k => by rw [sconceref03_Add.j1,w64_succ (by omega)]) (ev_pos rfl ?_)
      refine ev_bind0 (sp_digit_big x i) (ev_bind0 (sp_digit_big y i) (ev_pos (by rw [dgs_length];omega) ?_))
      have hn:=ih (i + 1) (by omega)
      rw [carry_next,dgs_snoc,carry_step x y (4294967296 ^ i) (Nat.pow_pos (by decide))] at hn
      have hc:=carry_lt x y (4294967296 ^ i) (Nat.pow_pos (by decide))
      have hdx:=Nat.mod_lt (x / 4294967296 ^ i) (show 0 < 4294967296 by decide)
      have hdy:=Nat.mod_lt (y / 4294967296 ^ i) (show 0 < 4294967296 by decide)
      generalize (x % 4294967296 ^ i + y % 4294967296 ^ i) / 4294967296 ^ i = c at *
      have e:(x / 4294967296 ^ i + y / 4294967296 ^ i + c) % 4294967296 = (x / 4294967296 ^ i % 4294967296 + y / 4294967296 ^ i % 4294967296 + c) % 4294967296:=by omega
      rw [e] at hn
      generalize x / 4294967296 ^ i % 4294967296 = dx at *
      generalize y / 4294967296 ^ i % 4294967296 = dy at *
      have e2:IntKind.u64.wrap ((c:Int) + IntKind.u64.wrap (IntKind.u64.wrap (dx:Int) + IntKind.u64.wrap (dy:Int))) = ((dx + dy + c:Nat):Int):=by simp only [wU];omega
      rw [e2]
      have e3:((dx + dy + c:Nat):Int) % 4294967296 = (((dx + dy + c) % 4294967296:Nat):Int):=by omega
      have e4:((dx + dy + c:Nat):Int) / 4294967296 = (((dx + dy + c) / 4294967296:Nat):Int):=by omega
      rw [e3,e4]
      exact hn
    refine Ev.step (fun k => by rw [sconceref03_Add.l0]) ?_
    by_cases hlt:i < blen x
    · exact ev_pos (by rw [big_length];omega) hj
    · refine ev_neg (by rw [big_length];omega) ?_
      rw [show decide ((i:Int) < ((big y).length:Int)) = true from decide_eq_true (by rw [big_length];omega)]
      exact hj
theorem sp_Add {x y:Nat} (hx:blen x≤1000000000) (hy:blen y≤1000000000):Ev (fun k => sconceref03_Add.f k (big x) (big y)) (big (x + y)):=by
  unfold sconceref03_Add.f
  have h:=ref_Add_loop x y hx hy (max (blen x) (blen y)) 0 (by omega)
  simpa [dgs,Nat.mod_one] using h
theorem W_pow (i:Nat):18446744073709551616 ^ i = 4294967296 ^ (2 * i):=by rw [Nat.pow_mul]
theorem ref_Of_loop {l:List Int} (hl:dg ((18446744073709551616:Nat):Int) l) (hn:l.length≤1000000000):∀ (d i:Nat),i + d = l.length →
    Ev (fun k => sconceref03_Of.l0 k (dgs 4294967296 (2 * i) (num 18446744073709551616 l)) l (l.length:Int) (i:Int)) (big (num 18446744073709551616 l)):=by
  have hlt:=num_lt hl
  have e0:=dgs_num hl
  generalize num 18446744073709551616 l = x at *
  intro d
  induction d with
  | zero =>
    intro i hi
    refine Ev.step (fun k => by rw [sconceref03_Of.l0]) (ev_neg (by omega) ?_)
    refine ev_bind (sp_trim' (x:=x) (dgs_dg (by decide) _ _) (by rw [dgs_length];omega) ?_) (ev_const rfl)
    rw [num_dgs,← W_pow,show i = l.length by omega,Nat.mod_eq_of_lt hlt]
  | succ d ih =>
    intro i hi
    refine Ev.step (fun k => by rw [sconceref03_Of.l0,w64_succ (by omega),rdA]) ?_
    refine ev_pos (by omega) (ev_pos (by omega) (ev_pos (by omega) (ev_bind0 rfl (ev_pos (by rw [dgs_length];simp;omega) ?_))))
    have hn:=ih (i + 1) (by omega)
    have ha:at0 l i = ((x / 18446744073709551616 ^ i % 18446744073709551616:Nat):Int):=by
      have:=at0_dgs (B:=18446744073709551616) (n:=l.length) (i:=i) x (by omega)
      rwa [e0] at this
    have e:dgs 4294967296 (2 * (i + 1)) x = dgs 4294967296 (2 * i) x ++ [at0 l i % 4294967296,at0 l i / 4294967296 % 4294967296]:=by
      rw [show 2 * (i + 1) = 2 * i + 2 by omega,dgs_append,← W_pow,ha]
      simp only [dgs]
      congr 2
      · omega
      · congr 1;omega
    rw [e] at hn
    exact hn
theorem sp_Of {l:List Int} (hl:dg ((18446744073709551616:Nat):Int) l) (hn:l.length≤1000000000):Ev (fun k => sconceref03_Of.f k l) (big (num 18446744073709551616 l)):=by
  unfold sconceref03_Of.f
  exact ref_Of_loop hl hn l.length 0 (by omega)
theorem ref_Nat_loop (x n:Nat) (hn:n≤1000000000):∀ (d i:Nat),i + d = n →
    Ev (fun k => sconceref03_Nat.l0 k (big x) (dgs 18446744073709551616 i x ++ List.replicate (n - i) 0) (n:Int) (i:Int)) (dgs 18446744073709551616 n x):=by
  intro d
  induction d with
  | zero =>
    intro i hi
    refine Ev.step (fun k => by rw [sconceref03_Nat.l0]) (ev_neg (by omega) (ev_const ?_))
    rw [show i = n by omega];simp
  | succ d ih =>
    intro i hi
    have e1:wrap64 (2 * (i:Int)) = ((2 * i:Nat):Int):=by rw [w64 (by omega) (by omega)];omega
    refine Ev.step (fun k => by rw [sconceref03_Nat.l0,e1,w64_succ (by omega),w64_succ (by omega),Int.toNat_natCast]) ?_
    refine ev_pos (by omega) (ev_bind0 (sp_digit_big x (2 * i)) (ev_bind0 (sp_digit_big x (2 * i + 1)) ?_))
    refine ev_pos (by omega) (ev_pos (by rw [dgs_full_length x (by omega)];omega) ?_)
    have hn:=ih (i + 1) (by omega)
    have h1:=Nat.mod_lt (x / 4294967296 ^ (2 * i)) (show 0 < 4294967296 by decide)
    have h2:=Nat.mod_lt (x / 4294967296 ^ (2 * i + 1)) (show 0 < 4294967296 by decide)
    have hy:Go.bits .or .u64 (IntKind.u64.wrap ((x / 4294967296 ^ (2 * i) % 4294967296:Nat):Int)) (IntKind.u64.wrap (IntKind.u64.wrap ((x / 4294967296 ^ (2 * i + 1) % 4294967296:Nat):Int) * 4294967296)) = ((x / 18446744073709551616 ^ i % 18446744073709551616:Nat):Int):=by
      have e2:x / 4294967296 ^ (2 * i + 1) = x / 4294967296 ^ (2 * i) / 4294967296:=by rw [Nat.pow_succ,Nat.div_div_eq_div_mul]
      rw [W_pow,e2]
      rw [e2] at h2
      generalize x / 4294967296 ^ (2 * i) = z at *
      simp only [wU]
      have f1:((z % 4294967296:Nat):Int) % 18446744073709551616 = ((z % 4294967296:Nat):Int):=by omega
      have f2:((z / 4294967296 % 4294967296:Nat):Int) % 18446744073709551616 * 4294967296 % 18446744073709551616 = ((z / 4294967296 % 4294967296 * 4294967296:Nat):Int):=by omega
      rw [f1,f2]
      have hor:=b_or_add (a:=((z / 4294967296 % 4294967296 * 4294967296:Nat):Int)) (b:=((z % 4294967296:Nat):Int)) 32 (by omega) (by omega) (by omega) (by omega) (by omega) (by omega)
      rw [u64_or _ _ (by omega) (by omega) (by omega) (by omega)] at hor
      rw [u64_or _ _ (by omega) (by omega) (by omega) (by omega),Nat.or_comm,hor]
      omega
    rw [dgs_set x (by omega) _ hy]
    exact hn
theorem sp_Nat {x:Nat} {n:Int} (hn:n≤1000000000):Ev (fun k => sconceref03_Nat.f k (big x) n) (dgs 18446744073709551616 n.toNat x):=by
  unfold sconceref03_Nat.f
  have e:mx n 0 = (n.toNat:Int):=by unfold mx;split <;> omega
  rw [e]
  refine ev_pos (by omega) (ev_pos (by omega) (ev_bind0 rfl ?_))
  rw [Int.toNat_natCast,List.length_replicate]
  exact ref_Nat_loop x n.toNat (by omega) n.toNat 0 (by omega)
def cmpI (x y:Nat):Int:=if x < y then -1 else if x = y then 0 else 1
theorem ref_Cmp_loop (x y:Nat) (hn:blen x≤1000000000) (hl:blen x = blen y):∀ (n:Nat),n≤blen x→x / 4294967296 ^ n = y / 4294967296 ^ n →
    Ev (fun k => sconceref03_Cmp.l0 k (big x) (big y) ((n:Int) - 1)) (cmpI x y):=by
  intro n
  induction n with
  | zero =>
    intro _ h
    refine Ev.step (fun k => by rw [sconceref03_Cmp.l0]) (ev_neg (by omega) (ev_const ?_))
    rw [Nat.pow_zero,Nat.div_one,Nat.div_one] at h
    subst h;simp [cmpI]
  | succ n ih =>
    intro hlt h
    have e0:((n + 1:Nat):Int) - 1 = (n:Int):=by omega
    rw [e0]
    have e1:wrap64 ((n:Int) - 1) = (n:Int) - 1:=w64 (by omega) (by omega)
    refine Ev.step (fun k => by rw [sconceref03_Cmp.l0,e1,rdA,rdA,at0_big,at0_big]) ?_
    refine ev_pos (by omega) (ev_pos (by omega) (ev_pos (by rw [big_length];omega) (ev_pos (by rw [big_length];omega) ?_)))
    have ex:x / 4294967296 ^ (n + 1) = x / 4294967296 ^ n / 4294967296:=by rw [Nat.pow_succ,Nat.div_div_eq_div_mul]
    have ey:y / 4294967296 ^ (n + 1) = y / 4294967296 ^ n / 4294967296:=by rw [Nat.pow_succ,Nat.div_div_eq_div_mul]
    rw [ex,ey] at h
    by_cases he:x / 4294967296 ^ n = y / 4294967296 ^ n
    · refine ev_pos (by rw [he]) (ih (by omega) he)
    · refine ev_neg (by omega) ?_
      by_cases hc:x / 4294967296 ^ n < y / 4294967296 ^ n
      · refine ev_pos (by omega) (ev_const ?_)
        have:x < y:=Nat.lt_of_not_le (fun h => by have:=Nat.div_le_div_right (c:=4294967296 ^ n) h;omega)
        simp [cmpI,this]
      · refine ev_neg (by omega) (ev_const ?_)
        have:¬ x < y:=fun h => by have:=Nat.div_le_div_right (c:=4294967296 ^ n) (Nat.le_of_lt h);omega
        have h2:¬ x = y:=fun h => he (by rw [h])
        simp [cmpI,this,h2]
theorem sp_Cmp {x y:Nat} (hx:blen x≤1000000000):Ev (fun k => sconceref03_Cmp.f k (big x) (big y)) (cmpI x y):=by
  unfold sconceref03_Cmp.f
  rw [big_length,big_length]
  by_cases hl:blen x = blen y
  · refine ev_pos (by omega) ?_
    rw [w64 (by omega) (by omega)]
    refine ref_Cmp_loop x y hx hl (blen x) (Nat.le_refl _) ?_
    rw [Nat.div_eq_of_lt (blen_lt x),hl,Nat.div_eq_of_lt (blen_lt y)]
  · refine ev_neg (by omega) ?_
    by_cases hc:blen x < blen y
    · refine ev_pos (by omega) (ev_const ?_)
      have:x < y:=Nat.lt_of_not_le (fun h => by have:=blen_mono h;omega)
      simp [cmpI,this]
    · refine ev_neg (by omega) (ev_const ?_)
      have:¬ x < y:=fun h => by have:=blen_mono (Nat.le_of_lt h);omega
      have h2:¬ x = y:=fun h => hl (by rw [h])
      simp [cmpI,this,h2]
theorem borrow_next (x y i:Nat):(x % 4294967296 ^ (i + 1) < y % 4294967296 ^ (i + 1)) ↔ (x / 4294967296 ^ i % 4294967296 < y / 4294967296 ^ i % 4294967296 + (if x % 4294967296 ^ i < y % 4294967296 ^ i then 1 else 0)):=by
  have hQ:0 < 4294967296 ^ i:=Nat.pow_pos (by decide)
  have e1:x % 4294967296 ^ (i + 1) = x % 4294967296 ^ i + 4294967296 ^ i * (x / 4294967296 ^ i % 4294967296):=by rw [Nat.pow_succ,Nat.mod_mul]
  have e2:y % 4294967296 ^ (i + 1) = y % 4294967296 ^ i + 4294967296 ^ i * (y / 4294967296 ^ i % 4294967296):=by rw [Nat.pow_succ,Nat.mod_mul]
  rw [e1,e2]
  have h1:=Nat.mod_lt x hQ
  have h2:=Nat.mod_lt y hQ
  generalize x / 4294967296 ^ i % 4294967296 = dx at *
  generalize y / 4294967296 ^ i % 4294967296 = dy at *
  generalize x % 4294967296 ^ i = rx at *
  generalize y % 4294967296 ^ i = ry at *
  generalize 4294967296 ^ i = Q at *
  rcases Nat.lt_trichotomy dx dy with h | h | h
  · have:Q * (dx + 1)≤Q * dy:=Nat.mul_le_mul_left _ h
    rw [Nat.mul_add,Nat.mul_one] at this
    constructor
    · intro _;split <;> omega
    · intro _;omega
  · subst h
    split <;> omega
  · have:Q * (dy + 1)≤Q * dx:=Nat.mul_le_mul_left _ h
    rw [Nat.mul_add,Nat.mul_one] at this
    constructor
    · intro _;omega
    · intro h3;split at h3 <;> omega
theorem sub_digit (x y i:Nat) (h:y≤x):((x - y) / 4294967296 ^ i:Nat) = x / 4294967296 ^ i - y / 4294967296 ^ i - (if x % 4294967296 ^ i < y % 4294967296 ^ i then 1 else 0):=by
  have hQ:0 < 4294967296 ^ i:=Nat.pow_pos (by decide)
  have h1:=Nat.div_add_mod x (4294967296 ^ i)
  have h2:=Nat.div_add_mod y (4294967296 ^ i)
  have h3:=Nat.mod_lt x hQ
  have h4:=Nat.mod_lt y hQ
  generalize x / 4294967296 ^ i = qx at *
  generalize y / 4294967296 ^ i = qy at *
  generalize x % 4294967296 ^ i = rx at *
  generalize y % 4294967296 ^ i = ry at *
  generalize 4294967296 ^ i = Q at *
  split
  · rename_i hc
    have hq:qy < qx:=by
      rcases Nat.lt_or_ge qy qx with h | h
      · exact h
      · have:=Nat.mul_le_mul_left Q h;omega
    have e:x - y = (Q + rx - ry) + Q * (qx - qy - 1):=by
      have h5:Q * (qx - qy - 1) = Q * qx - Q * qy - Q:=by rw [Nat.mul_sub,Nat.mul_sub,Nat.mul_one]
      have h6:Q * (qy + 1)≤Q * qx:=Nat.mul_le_mul_left _ hq
      rw [Nat.mul_add,Nat.mul_one] at h6
      omega
    rw [e,Nat.add_mul_div_left _ _ hQ,Nat.div_eq_of_lt (by omega)];omega
  · rename_i hc
    have hq:qy≤qx:=by
      rcases Nat.lt_or_ge qx qy with h | h
      · have:=Nat.mul_le_mul_left Q h;rw [Nat.mul_succ] at this;omega
      · exact h
    have e:x - y = (rx - ry) + Q * (qx - qy):=by
      have h5:Q * (qx - qy) = Q * qx - Q * qy:=Nat.mul_sub _ _ _
      have h6:Q * qy≤Q * qx:=Nat.mul_le_mul_left _ hq
      omega
    rw [e,Nat.add_mul_div_left _ _ hQ,Nat.div_eq_of_lt (by omega)];omega
theorem ref_Sub_loop (x y:Nat) (hx:blen x≤1000000000) (h:y≤x):∀ (d i:Nat),i + d = blen x →
    Ev (fun k => sconceref03_Sub.l0 k (big x) (big y) (dgs 4294967296 i (x - y)) (if x % 4294967296 ^ i < y % 4294967296 ^ i then -1 else 0) (blen x:Int) (i:Int)) (big (x - y)):=by
  intro d
  induction d with
  | zero =>
    intro i hi
    refine Ev.step (fun k => by rw [sconceref03_Sub.l0]) (ev_neg (by omega) ?_)
    refine ev_bind (sp_trim' (x:=x - y) (dgs_dg (by decide) _ _) (by rw [dgs_length];omega) ?_) (ev_const rfl)
    rw [num_dgs,Nat.mod_eq_of_lt]
    exact Nat.lt_of_le_of_lt (Nat.sub_le _ _) (by rw [show i = blen x by omega];exact blen_lt x)
  | succ d ih =>
    intro i hi
    refine Ev.step (fun k => by rw [sconceref03_Sub.l0,w64_succ (by omega),rdA,at0_big]) ?_
    refine ev_pos (by omega) (ev_pos (by omega) (ev_pos (by rw [big_length];omega) (ev_bind0 (sp_digit_big y i) (ev_pos (by rw [dgs_length];omega) ?_))))
    have hn:=ih (i + 1) (by omega)
    have hb:=borrow_next x y i
    have hs:=sub_digit x y i h
    have hq:=Nat.div_le_div_right (c:=4294967296 ^ i) h
    have hq2:(if x % 4294967296 ^ i < y % 4294967296 ^ i then 1 else 0)≤x / 4294967296 ^ i - y / 4294967296 ^ i:=by
      split
      · rename_i hc
        have h1:=Nat.div_add_mod x (4294967296 ^ i)
        have h2:=Nat.div_add_mod y (4294967296 ^ i)
        rcases Nat.lt_or_ge (y / 4294967296 ^ i) (x / 4294967296 ^ i) with h3 | h3
        · omega
        · have:x / 4294967296 ^ i = y / 4294967296 ^ i:=by omega
          rw [this] at h1;omega
      · omega
    rw [dgs_snoc,hs] at hn
    have hc1:(if x % 4294967296 ^ i < y % 4294967296 ^ i then (-1:Int) else 0) = -((if x % 4294967296 ^ i < y % 4294967296 ^ i then 1 else 0:Nat):Int):=by split <;> rfl
    have hc2:(if x % 4294967296 ^ (i + 1) < y % 4294967296 ^ (i + 1) then (-1:Int) else 0) = if (x / 4294967296 ^ i % 4294967296 < y / 4294967296 ^ i % 4294967296 + (if x % 4294967296 ^ i < y % 4294967296 ^ i then 1 else 0)) then (-1:Int) else 0:=by
      simp only [hb]
    rw [hc2] at hn
    rw [hc1]
    have hbb:(if x % 4294967296 ^ i < y % 4294967296 ^ i then 1 else 0:Nat)≤1:=by split <;> omega
    generalize (if x % 4294967296 ^ i < y % 4294967296 ^ i then 1 else 0:Nat) = b at *
    generalize x / 4294967296 ^ i = qx at *
    generalize y / 4294967296 ^ i = qy at *
    have e1:wrap64 (-(b:Int) + wrap64 (wrap64 ((qx % 4294967296:Nat):Int) - wrap64 ((qy % 4294967296:Nat):Int))) = ((qx % 4294967296:Nat):Int) - ((qy % 4294967296:Nat):Int) - b:=by
      have hx1:=Nat.mod_lt qx (show 0 < 4294967296 by decide)
      have hy1:=Nat.mod_lt qy (show 0 < 4294967296 by decide)
      generalize qx % 4294967296 = dx at *
      generalize qy % 4294967296 = dy at *
      rw [w64 (n:=(dx:Int)) (by omega) (by omega),w64 (n:=(dy:Int)) (by omega) (by omega),w64 (n:=(dx:Int) - dy) (by omega) (by omega),w64 (by omega) (by omega)]
      omega
    rw [e1]
    have e2:(((qx % 4294967296:Nat):Int) - ((qy % 4294967296:Nat):Int) - b) % 4294967296 = (((qx - qy - b) % 4294967296:Nat):Int):=by
      have k1:((qx - qy - b:Nat):Int) = (qx:Int) - qy - b:=by omega
      have k2:(((qx - qy - b) % 4294967296:Nat):Int) = ((qx:Int) - qy - b) % 4294967296:=by rw [Int.natCast_emod,k1];rfl
      rw [k2]
      have k3:=Nat.div_add_mod qx 4294967296
      have k4:=Nat.div_add_mod qy 4294967296
      generalize qx % 4294967296 = dx at *
      generalize qy % 4294967296 = dy at *
      generalize qx / 4294967296 = ex at *
      generalize qy / 4294967296 = ey at *
      clear hn hc1 hc2 e1 hs hb ih k1 k2
      omega
    have e3:(((qx % 4294967296:Nat):Int) - ((qy % 4294967296:Nat):Int) - b) / 4294967296 = if qx % 4294967296 < qy % 4294967296 + b then -1 else 0:=by
      have hx1:=Nat.mod_lt qx (show 0 < 4294967296 by decide)
      have hy1:=Nat.mod_lt qy (show 0 < 4294967296 by decide)
      generalize qx % 4294967296 = dx at *
      generalize qy % 4294967296 = dy at *
      clear hn hc1 hc2 e1 e2 hs hb ih
      split <;> omega
    rw [e2,e3]
    exact hn
theorem sp_Sub {x y:Nat} (hx:blen x≤1000000000) (h:y≤x):Ev (fun k => sconceref03_Sub.f k (big x) (big y)) (big (x - y)):=by
  unfold sconceref03_Sub.f
  have h:=ref_Sub_loop x y hx h (blen x) 0 (by omega)
  rw [big_length]
  simpa [dgs,Nat.mod_one] using h
theorem shl_div (x s i:Nat):x * 2 ^ s / 4294967296 ^ i = x / 4294967296 ^ i * 2 ^ s + x % 4294967296 ^ i * 2 ^ s / 4294967296 ^ i:=by
  have hQ:0 < 4294967296 ^ i:=Nat.pow_pos (by decide)
  have h1:=Nat.div_add_mod x (4294967296 ^ i)
  have e:x * 2 ^ s = x % 4294967296 ^ i * 2 ^ s + 4294967296 ^ i * (x / 4294967296 ^ i * 2 ^ s):=by
    conv => lhs;rw [← h1]
    rw [Nat.add_mul,Nat.mul_assoc];omega
  conv => lhs;rw [e,Nat.add_mul_div_left _ _ hQ]
  omega
theorem shl_carry_lt (x s i:Nat):x % 4294967296 ^ i * 2 ^ s / 4294967296 ^ i < 2 ^ s:=by
  have hQ:0 < 4294967296 ^ i:=Nat.pow_pos (by decide)
  rw [Nat.div_lt_iff_lt_mul hQ,Nat.mul_comm (2 ^ s)]
  exact (Nat.mul_lt_mul_right (Nat.pow_pos (by decide))).2 (Nat.mod_lt x hQ)
theorem ref_Shl_loop (x n:Nat) (hx:blen x≤1000000000) (hn:n≤1000000000):∀ (d i:Nat),i + d = blen x →
    Ev (fun k => sconceref03_Shl.l0 k (n:Int) (dgs 4294967296 (n / 32 + i) (x * 2 ^ n)) ((x % 4294967296 ^ i * 2 ^ (n % 32) / 4294967296 ^ i:Nat):Int) (big x) (blen x:Int) (i:Int)) (big (x * 2 ^ n)):=by
  have hsplit:x * 2 ^ n = x * 2 ^ (n % 32) * 4294967296 ^ (n / 32):=by
    rw [H_pow,Nat.mul_assoc,← Nat.pow_add];congr 2;omega
  have hs32:2 ^ (n % 32)≤2147483648:=by
    have:2 ^ (n % 32)≤2 ^ 31:=Nat.pow_le_pow_right (by decide) (by omega)
    exact this
  have hdig:∀ i,x * 2 ^ n / 4294967296 ^ (n / 32 + i) = x * 2 ^ (n % 32) / 4294967296 ^ i:=fun i => by
    rw [hsplit,Nat.pow_add,← Nat.div_div_eq_div_mul,Nat.mul_div_cancel _ (Nat.pow_pos (by decide))]
  intro d
  induction d with
  | zero =>
    intro i hi
    have hq:x / 4294967296 ^ i = 0:=Nat.div_eq_of_lt (by rw [show i = blen x by omega];exact blen_lt x)
    have hc:=shl_carry_lt x (n % 32) i
    have hd:=shl_div x (n % 32) i
    rw [hq,Nat.zero_mul,Nat.zero_add] at hd
    refine Ev.step (fun k => by rw [sconceref03_Shl.l0]) (ev_neg (by omega) (ev_pos (by rw [dgs_length];omega) ?_))
    refine ev_bind (sp_trim' (x:=x * 2 ^ n) ?_ ?_ ?_) (ev_const rfl)
    · rw [dg_append];exact ⟨dgs_dg (by decide) _ _,by rw [dg_cons];exact ⟨by omega,dg_nil⟩⟩
    · rw [List.length_append,dgs_length];simp;omega
    · rw [num_snoc,num_dgs,dgs_length]
      have hm:=Nat.div_add_mod (x * 2 ^ n) (4294967296 ^ (n / 32 + i))
      rw [hdig,hd] at hm
      generalize x % 4294967296 ^ i * 2 ^ (n % 32) / 4294967296 ^ i = c at *
      rw [show ((c:Int) % 4294967296).toNat = c by omega]
      omega
  | succ d ih =>
    intro i hi
    have e1:Int.tmod (n:Int) 32 = ((n % 32:Nat):Int):=by rw [Int.tmod_eq_emod_of_nonneg (by omega)];omega
    have e2:IntKind.u64.wrap ((n % 32:Nat):Int) = ((n % 32:Nat):Int):=by rw [wU];omega
    refine Ev.step (fun k => by rw [sconceref03_Shl.l0,w64_succ (by omega),rdA,at0_big,e1,e2]) ?_
    refine ev_pos (by omega) (ev_pos (by omega) (ev_pos (by rw [big_length];omega) (ev_pos (by omega) (ev_pos (by rw [dgs_length];omega) ?_))))
    have hn':=ih (i + 1) (by omega)
    have hc:=shl_carry_lt x (n % 32) i
    have hd:=shl_div x (n % 32) i
    have hdx:=Nat.mod_lt (x / 4294967296 ^ i) (show 0 < 4294967296 by decide)
    have e3:x % 4294967296 ^ (i + 1) * 2 ^ (n % 32) / 4294967296 ^ (i + 1) = (x / 4294967296 ^ i % 4294967296 * 2 ^ (n % 32) + x % 4294967296 ^ i * 2 ^ (n % 32) / 4294967296 ^ i) / 4294967296:=by
      have hQ:0 < 4294967296 ^ i:=Nat.pow_pos (by decide)
      have f1:x % 4294967296 ^ (i + 1) = x % 4294967296 ^ i + 4294967296 ^ i * (x / 4294967296 ^ i % 4294967296):=by rw [Nat.pow_succ,Nat.mod_mul]
      rw [f1,Nat.pow_succ,← Nat.div_div_eq_div_mul]
      congr 1
      rw [Nat.add_mul,Nat.mul_assoc,Nat.add_mul_div_left _ _ hQ];omega
    rw [show n / 32 + (i + 1) = (n / 32 + i) + 1 by omega,dgs_snoc,hdig,hd,e3] at hn'
    have e4:shl .u64 (IntKind.u64.wrap ((x / 4294967296 ^ i % 4294967296:Nat):Int)) ((n % 32:Nat):Int) = ((x / 4294967296 ^ i % 4294967296 * 2 ^ (n % 32):Nat):Int):=by
      unfold shl
      rw [Int.toNat_natCast,Nat.min_eq_left (by simp [IntKind.bits];omega),wU,wU]
      have hp:((2 ^ (n % 32):Nat):Int) = 2 ^ (n % 32):=by simp
      rw [← hp]
      generalize 2 ^ (n % 32) = p at *
      generalize x / 4294967296 ^ i % 4294967296 = z at *
      have hz:z * p≤4294967295 * 2147483648:=Nat.mul_le_mul (by omega) hs32
      rw [show ((z:Int) % 18446744073709551616) = (z:Int) by omega,← Int.natCast_mul]
      omega
    rw [e4]
    generalize hcc:x % 4294967296 ^ i * 2 ^ (n % 32) / 4294967296 ^ i = c at *
    have hmz:x / 4294967296 ^ i % 4294967296 * 2 ^ (n % 32)≤4294967295 * 2147483648:=Nat.mul_le_mul (by omega) hs32
    have e5:Go.bits .or .u64 (c:Int) ((x / 4294967296 ^ i % 4294967296 * 2 ^ (n % 32):Nat):Int) = ((x / 4294967296 ^ i % 4294967296 * 2 ^ (n % 32) + c:Nat):Int):=by
      have hor:=b_or_add (a:=((x / 4294967296 ^ i % 4294967296 * 2 ^ (n % 32):Nat):Int)) (b:=(c:Int)) (n % 32) (by omega) (by omega) (by omega) (by omega) (by
        have hp:((2 ^ (n % 32):Nat):Int) = 2 ^ (n % 32):=by simp
        rw [← hp,Int.natCast_mul];exact Int.mul_emod_left _ _) (by
        have hp:((2 ^ (n % 32):Nat):Int) = 2 ^ (n % 32):=by simp
        rw [← hp];omega)
      rw [u64_or _ _ (by omega) (by omega) (by omega) (by omega)] at hor
      rw [u64_or _ _ (by omega) (by omega) (by omega) (by omega),Nat.or_comm,hor]
      omega
    rw [e5]
    have e6:((x / 4294967296 ^ i % 4294967296 * 2 ^ (n % 32) + c:Nat):Int) % 4294967296 = (((x / 4294967296 ^ i * 2 ^ (n % 32) + c) % 4294967296:Nat):Int):=by
      have:(x / 4294967296 ^ i * 2 ^ (n % 32) + c) % 4294967296 = (x / 4294967296 ^ i % 4294967296 * 2 ^ (n % 32) + c) % 4294967296:=by
        rw [Nat.add_mod,Nat.mul_mod,← Nat.mod_mul_mod] <;> simp [Nat.add_mod,Nat.mul_mod]
      rw [this];omega
    have e7:((x / 4294967296 ^ i % 4294967296 * 2 ^ (n % 32) + c:Nat):Int) / 4294967296 = (((x / 4294967296 ^ i % 4294967296 * 2 ^ (n % 32) + c) / 4294967296:Nat):Int):=by omega
    rw [e6,e7]
    exact hn'
theorem sp_Shl {x n:Nat} (hx:blen x≤1000000000) (hn:n≤1000000000):Ev (fun k => sconceref03_Shl.f k (big x) (n:Int)) (big (x * 2 ^ n)):=by
  unfold sconceref03_Shl.f
  have e1:wrap64 (Int.tdiv (n:Int) 32) = ((n / 32:Nat):Int):=by rw [Int.tdiv_eq_ediv_of_nonneg (by omega),w64 (by omega) (by omega)];omega
  have e2:wrap64 ((wrap64 (((n / 32:Nat):Int) + ((big x).length:Int))) + 1) = ((n / 32 + blen x + 1:Nat):Int):=by rw [big_length];unfold wrap64;omega
  rw [e1,e2,Int.toNat_natCast,Int.toNat_natCast]
  refine ev_pos (by omega) (ev_pos (by omega) (ev_pos (by omega) ?_))
  have h:=ref_Shl_loop x n hx hn (blen x) 0 (by omega)
  rw [big_length]
  have e3:dgs 4294967296 (n / 32) (x * 2 ^ n) = List.replicate (n / 32) 0:=by
    rw [← dgs_mod,show x * 2 ^ n % 4294967296 ^ (n / 32) = 0 from ?_,dgs_zero]
    have hsplit:x * 2 ^ n = x * 2 ^ (n % 32) * 4294967296 ^ (n / 32):=by
      rw [H_pow,Nat.mul_assoc,← Nat.pow_add];congr 2;omega
    rw [hsplit,Nat.mul_mod_left]
  rw [Nat.add_zero,e3] at h
  simpa [Nat.mod_one] using h
theorem ref_Same_loop (a b:List Int) (hn:a.length≤1000000000000) (hl:a.length = b.length):∀ (d i:Nat),i + d = a.length→(∀ j,j < i→at0 a j = at0 b j) →
    Ev (fun k => sconceref03_Same.l0 k a b (a.length:Int) (i:Int)) (decide (a = b)):=by
  intro d
  induction d with
  | zero =>
    intro i hi h
    refine Ev.step (fun k => by rw [sconceref03_Same.l0]) (ev_neg (by omega) (ev_const ?_))
    have:a = b:=ext_at0 hl (fun j hj => h j (by omega))
    simp [this]
  | succ d ih =>
    intro i hi h
    refine Ev.step (fun k => by rw [sconceref03_Same.l0,w64_succ (by omega),rdA,rdA]) ?_
    refine ev_pos (by omega) (ev_pos (by omega) (ev_pos (by omega) (ev_pos (by omega) ?_)))
    by_cases he:at0 a i = at0 b i
    · exact ev_pos he (ih (i + 1) (by omega) (fun j hj => by
        by_cases e:j = i
        · subst e;exact he
        · exact h j (by omega)))
    · refine ev_neg he (ev_const ?_)
      have:¬ a = b:=fun e => he (by rw [e])
      simp [this]
theorem sp_Same {a b:List Int} (hn:a.length≤1000000000000):Ev (fun k => sconceref03_Same.f k a b) (decide (a = b)):=by
  unfold sconceref03_Same.f
  by_cases hl:a.length = b.length
  · exact ev_pos (by omega) (ref_Same_loop a b hn hl a.length 0 (by omega) (fun j hj => by omega))
  · refine ev_neg (by omega) (ev_const ?_)
    have:¬ a = b:=fun e => hl (by rw [e])
    simp [this]
end Go.Proofs.Ytonpekldcnankaa.X
