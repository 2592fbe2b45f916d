/- Texts of the walk and of the plain laws, laid together by a program: Sp3, Sp5a. -/
import Derived.Test.YtonpekldcnankaaZC12
import Derived.Test.YtonpekldcnankaaZC14
section
namespace Go.Proofs.Ytonpekldcnankaa.X
open Go.RowKit Go.Proofs.YtonpekldcnankaaW.PrintWords Go.Proofs.YtonpekldcnankaaW.PrintLast Go.Proofs.YtonpekldcnankaaW.PrintMore Go.Proofs.Ytonpekldcnankaa.Ma
set_option linter.unusedVariables false
theorem rdA (l:List Int) (i:Nat):rd l (i:Int) = at0 l i:=by simp [rd,at0]
theorem w64_succ {i:Nat} (h:i < 9223372036854775807):wrap64 ((i:Int) + 1) = ((i + 1:Nat):Int):=by rw [w64 (by omega) (by omega)];omega
theorem sp_digit (l:List Int) (i:Nat):sconceref03_digit.f l (i:Int) = some (at0 l i):=by
  unfold sconceref03_digit.f
  by_cases h:i < l.length
  · rw [if_pos (by omega),if_pos (by omega),rdA]
  · rw [if_neg (by omega),at0_ge (by omega)]
theorem sp_digit_big (x i:Nat):sconceref03_digit.f (big x) (i:Int) = some ((x / 4294967296 ^ i % 4294967296:Nat):Int):=by rw [sp_digit,at0_big]
theorem trim_loop:∀ (n:Nat) (l:List Int),l.length = n→n≤1000000000000→dg ((4294967296:Nat):Int) l→Ev (fun k => sconceref03_trim.l0 k l) (big (num 4294967296 l)):=by
  intro n
  induction n with
  | zero =>
    intro l hl _ hd
    have:l = []:=List.eq_nil_of_length_eq_zero hl
    subst this
    refine Ev.step (f:=fun _ => some []) (fun k => by rw [sconceref03_trim.l0,if_neg (by simp)]) ?_
    exact ev_const rfl
  | succ n ih =>
    intro l hl hn hd
    have e1:wrap64 ((l.length:Int) - 1) = (n:Int):=by rw [w64 (by omega) (by omega)];omega
    refine Ev.step (fun k => by rw [sconceref03_trim.l0,e1,rdA]) ?_
    refine ev_pos (by omega) (ev_pos (by omega) (ev_pos (by omega) ?_))
    by_cases hz:at0 l n = 0
    · refine ev_pos hz (ev_pos (by omega) ?_)
      rw [Int.toNat_natCast]
      have hd':dg ((4294967296:Nat):Int) (l.take n):=fun x hx => hd x (List.mem_of_mem_take hx)
      have e:l = l.take n ++ [0]:=by
        have h2:l = l.take n ++ l.drop n:=(List.take_append_drop n l).symm
        have h3:l.drop n = [at0 l n]:=by
          rw [List.drop_eq_getElem_cons (by omega),List.drop_of_length_le (by omega),at0_lt (by omega)]
        rw [h3,hz] at h2;exact h2
      have e2:num 4294967296 l = num 4294967296 (l.take n):=by
        conv => lhs;rw [e,num_snoc]
        simp
      rw [e2]
      exact ih (l.take n) (by rw [List.length_take];omega) (by omega) hd'
    · refine ev_neg hz (ev_const ?_)
      rw [← big_of hd (.inr (by rw [hl];exact hz))]
theorem sp_trim {l:List Int} (hd:dg ((4294967296:Nat):Int) l) (hn:l.length≤1000000000000):Ev (fun k => sconceref03_trim.f k l) (big (num 4294967296 l)):=by
  unfold sconceref03_trim.f
  exact trim_loop _ l rfl hn hd
theorem sp_trim' {l:List Int} {x:Nat} (hd:dg ((4294967296:Nat):Int) l) (hn:l.length≤1000000000000) (hx:num 4294967296 l = x):Ev (fun k => sconceref03_trim.f k l) (big x):=by
  subst hx;exact sp_trim hd hn
theorem dg_pair {a b:Int} (ha:0≤a∧a < 4294967296) (hb:0≤b∧b < 4294967296):dg ((4294967296:Nat):Int) [a,b]:=by
  rw [dg_cons,dg_cons];exact ⟨ha,hb,dg_nil⟩
theorem sp_Small {w:Nat} (hw:w < 18446744073709551616):Ev (fun k => sconceref03_Small.f k (w:Int)) (big w):=by
  unfold sconceref03_Small.f
  refine ev_bind (sp_trim' (x:=w) (dg_pair (by omega) (by omega)) (by simp) ?_) (ev_const rfl)
  simp only [num];omega
theorem W_pow (i:Nat):18446744073709551616 ^ i = 4294967296 ^ (2 * i):=by rw [Nat.pow_mul]
theorem ref_Of_loop {l:List Int} (hl:dg ((18446744073709551616:Nat):Int) l) (hn:l.length≤1000000000):∀ (d i:Nat),i + d = l.length →
    Ev (fun k => sconceref03_Of.l0 k (dgs 4294967296 (2 * i) (num 18446744073709551616 l)) l (l.length:Int) (i:Int)) (big (num 18446744073709551616 l)):=by
  have hlt:=num_lt hl
  have e0:=dgs_num hl
  generalize num 18446744073709551616 l = x at *
  intro d
  induction d with
  | zero =>
    intro i hi
    refine Ev.step (fun k => by rw [sconceref03_Of.l0]) (ev_neg (by omega) ?_)
    refine ev_bind (sp_trim' (x:=x) (dgs_dg (by decide) _ _) (by rw [dgs_length];omega) ?_) (ev_const rfl)
    rw [num_dgs,← W_pow,show i = l.length by omega,Nat.mod_eq_of_lt hlt]
  | succ d ih =>
    intro i hi
    refine Ev.step (fun k => by rw [sconceref03_Of.l0,w64_succ (by omega),rdA]) ?_
    refine ev_pos (by omega) (ev_pos (by omega) (ev_pos (by omega) (ev_bind0 rfl (ev_pos (by rw [dgs_length];simp;omega) ?_))))
    have hn:=ih (i + 1) (by omega)
    have ha:at0 l i = ((x / 18446744073709551616 ^ i % 18446744073709551616:Nat):Int):=by
      have:=at0_dgs (B:=18446744073709551616) (n:=l.length) (i:=i) x (by omega)
      rwa [e0] at this
    have e:dgs 4294967296 (2 * (i + 1)) x = dgs 4294967296 (2 * i) x ++ [at0 l i % 4294967296,at0 l i / 4294967296 % 4294967296]:=by
      rw [show 2 * (i + 1) = 2 * i + 2 by omega,dgs_append,← W_pow,ha]
      simp only [dgs]
      congr 2
      · omega
      · congr 1;omega
    rw [e] at hn
    exact hn
theorem sp_Of {l:List Int} (hl:dg ((18446744073709551616:Nat):Int) l) (hn:l.length≤1000000000):Ev (fun k => sconceref03_Of.f k l) (big (num 18446744073709551616 l)):=by
  unfold sconceref03_Of.f
  exact ref_Of_loop hl hn l.length 0 (by omega)
theorem ref_Nat_loop (x n:Nat) (hn:n≤1000000000):∀ (d i:Nat),i + d = n →
    Ev (fun k => sconceref03_Nat.l0 k (big x) (dgs 18446744073709551616 i x ++ List.replicate (n - i) 0) (n:Int) (i:Int)) (dgs 18446744073709551616 n x):=by
  intro d
  induction d with
  | zero =>
    intro i hi
    refine Ev.step (fun k => by rw [sconceref03_Nat.l0]) (ev_neg (by omega) (ev_const ?_))
    rw [show i = n by omega];simp
  | succ d ih =>
    intro i hi
    have e1:wrap64 (2 * (i:Int)) = ((2 * i:Nat):Int):=by rw [w64 (by omega) (by omega)];omega
    refine Ev.step (fun k => by rw [sconceref03_Nat.l0,e1,w64_succ (by omega),w64_succ (by omega),Int.toNat_natCast]) ?_
    refine ev_pos (by omega) (ev_bind0 (sp_digit_big x (2 * i)) (ev_bind0 (sp_digit_big x (2 * i + 1)) ?_))
    refine ev_pos (by omega) (ev_pos (by rw [dgs_full_length x (by omega)];omega) ?_)
    have hn:=ih (i + 1) (by omega)
    have h1:=Nat.mod_lt (x / 4294967296 ^ (2 * i)) (show 0 < 4294967296 by decide)
    have h2:=Nat.mod_lt (x / 4294967296 ^ (2 * i + 1)) (show 0 < 4294967296 by decide)
    have hy:Go.bits .or .u64 (IntKind.u64.wrap ((x / 4294967296 ^ (2 * i) % 4294967296:Nat):Int)) (IntKind.u64.wrap (IntKind.u64.wrap ((x / 4294967296 ^ (2 * i + 1) % 4294967296:Nat):Int) * 4294967296)) = ((x / 18446744073709551616 ^ i % 18446744073709551616:Nat):Int):=by
      have e2:x / 4294967296 ^ (2 * i + 1) = x / 4294967296 ^ (2 * i) / 4294967296:=by rw [Nat.pow_succ,Nat.div_div_eq_div_mul]
      rw [W_pow,e2]
      rw [e2] at h2
      generalize x / 4294967296 ^ (2 * i) = z at *
      simp only [wU]
      have f1:((z % 4294967296:Nat):Int) % 18446744073709551616 = ((z % 4294967296:Nat):Int):=by omega
      have f2:((z / 4294967296 % 4294967296:Nat):Int) % 18446744073709551616 * 4294967296 % 18446744073709551616 = ((z / 4294967296 % 4294967296 * 4294967296:Nat):Int):=by omega
      rw [f1,f2]
      have hor:=b_or_add (a:=((z / 4294967296 % 4294967296 * 4294967296:Nat):Int)) (b:=((z % 4294967296:Nat):Int)) 32 (by omega) (by omega) (by omega) (by omega) (by omega) (by omega)
      rw [u64_or _ _ (by omega) (by omega) (by omega) (by omega)] at hor
      rw [u64_or _ _ (by omega) (by omega) (by omega) (by omega),Nat.or_comm,hor]
      omega
    rw [dgs_set x (by omega) _ hy]
    exact hn
theorem sp_Nat {x:Nat} {n:Int} (hn:n≤1000000000):Ev (fun k => sconceref03_Nat.f k (big x) n) (dgs 18446744073709551616 n.toNat x):=by
  unfold sconceref03_Nat.f
  have e:mx n 0 = (n.toNat:Int):=by unfold mx;split <;> omega
  rw [e]
  refine ev_pos (by omega) (ev_pos (by omega) (ev_bind0 rfl ?_))
  rw [Int.toNat_natCast,List.length_replicate]
  exact ref_Nat_loop x n.toNat (by omega) n.toNat 0 (by omega)
def cmpI (x y:Nat):Int:=if x < y then -1 else if x = y then 0 else 1
theorem ref_Cmp_loop (x y:Nat) (hn:blen x≤1000000000) (hl:blen x = blen y):∀ (n:Nat),n≤blen x→x / 4294967296 ^ n = y / 4294967296 ^ n →
    Ev (fun k => sconceref03_Cmp.l0 k (big x) (big y) ((n:Int) - 1)) (cmpI x y):=by
  intro n
  induction n with
  | zero =>
    intro _ h
    refine Ev.step (fun k => by rw [sconceref03_Cmp.l0]) (ev_neg (by omega) (ev_const ?_))
    rw [Nat.pow_zero,Nat.div_one,Nat.div_one] at h
    subst h;simp [cmpI]
  | succ n ih =>
    intro hlt h
    have e0:((n + 1:Nat):Int) - 1 = (n:Int):=by omega
    rw [e0]
    have e1:wrap64 ((n:Int) - 1) = (n:Int) - 1:=w64 (by omega) (by omega)
    refine Ev.step (fun k => by rw [sconceref03_Cmp.l0,e1,rdA,rdA,at0_big,at0_big]) ?_
    refine ev_pos (by omega) (ev_pos (by omega) (ev_pos (by rw [big_length];omega) (ev_pos (by rw [big_length];omega) ?_)))
    have ex:x / 4294967296 ^ (n + 1) = x / 4294967296 ^ n / 4294967296:=by rw [Nat.pow_succ,Nat.div_div_eq_div_mul]
    have ey:y / 4294967296 ^ (n + 1) = y / 4294967296 ^ n / 4294967296:=by rw [Nat.pow_succ,Nat.div_div_eq_div_mul]
    rw [ex,ey] at h
    by_cases he:x / 4294967296 ^ n = y / 4294967296 ^ n
    · refine ev_pos (by rw [he]) (ih (by omega) he)
    · refine ev_neg (by omega) ?_
      by_cases hc:x / 4294967296 ^ n < y / 4294967296 ^ n
      · refine ev_pos (by omega) (ev_const ?_)
        have:x < y:=Nat.lt_of_not_le (fun h => by have:=Nat.div_le_div_right (c:=4294967296 ^ n) h;omega)
        simp [cmpI,this]
      · refine ev_neg (by omega) (ev_const ?_)
        have:¬ x < y:=fun h => by have:=Nat.div_le_div_right (c:=4294967296 ^ n) (Nat.le_of_lt h);omega
        have h2:¬ x = y:=fun h => he (by rw [h])
        simp [cmpI,this,h2]
theorem sp_Cmp {x y:Nat} (hx:blen x≤1000000000):Ev (fun k => sconceref03_Cmp.f k (big x) (big y)) (cmpI x y):=by
  unfold sconceref03_Cmp.f
  rw [big_length,big_length]
  by_cases hl:blen x = blen y
  · refine ev_pos (by omega) ?_
    rw [w64 (by omega) (by omega)]
    refine ref_Cmp_loop x y hx hl (blen x) (Nat.le_refl _) ?_
    rw [Nat.div_eq_of_lt (blen_lt x),hl,Nat.div_eq_of_lt (blen_lt y)]
  · refine ev_neg (by omega) ?_
    by_cases hc:blen x < blen y
    · refine ev_pos (by omega) (ev_const ?_)
      have:x < y:=Nat.lt_of_not_le (fun h => by have:=blen_mono h;omega)
      simp [cmpI,this]
    · refine ev_neg (by omega) (ev_const ?_)
      have:¬ x < y:=fun h => by have:=blen_mono (Nat.le_of_lt h);omega
      have h2:¬ x = y:=fun h => hl (by rw [h])
      simp [cmpI,this,h2]
theorem borrow_next (x y i:Nat):(x % 4294967296 ^ (i + 1) < y % 4294967296 ^ (i + 1)) ↔ (x / 4294967296 ^ i % 4294967296 < y / 4294967296 ^ i % 4294967296 + (if x % 4294967296 ^ i < y % 4294967296 ^ i then 1 else 0)):=by
  have hQ:0 < 4294967296 ^ i:=Nat.pow_pos (by decide)
  have e1:x % 4294967296 ^ (i + 1) = x % 4294967296 ^ i + 4294967296 ^ i * (x / 4294967296 ^ i % 4294967296):=by rw [Nat.pow_succ,Nat.mod_mul]
  have e2:y % 4294967296 ^ (i + 1) = y % 4294967296 ^ i + 4294967296 ^ i * (y / 4294967296 ^ i % 4294967296):=by rw [Nat.pow_succ,Nat.mod_mul]
  rw [e1,e2]
  have h1:=Nat.mod_lt x hQ
  have h2:=Nat.mod_lt y hQ
  generalize x / 4294967296 ^ i % 4294967296 = dx at *
  generalize y / 4294967296 ^ i % 4294967296 = dy at *
  generalize x % 4294967296 ^ i = rx at *
  generalize y % 4294967296 ^ i = ry at *
  generalize 4294967296 ^ i = Q at *
  rcases Nat.lt_trichotomy dx dy with h | h | h
  · have:Q * (dx + 1)≤Q * dy:=Nat.mul_le_mul_left _ h
    rw [Nat.mul_add,Nat.mul_one] at this
    constructor
    · intro _;split <;> omega
    · intro _;omega
  · subst h
    split <;> omega
  · have:Q * (dy + 1)≤Q * dx:=Nat.mul_le_mul_left _ h
    rw [Nat.mul_add,Nat.mul_one] at this
    constructor
    · intro _;omega
    · intro h3;split at h3 <;> omega
theorem sub_digit (x y i:Nat) (h:y≤x):((x - y) / 4294967296 ^ i:Nat) = x / 4294967296 ^ i - y / 4294967296 ^ i - (if x % 4294967296 ^ i < y % 4294967296 ^ i then 1 else 0):=by
  have hQ:0 < 4294967296 ^ i:=Nat.pow_pos (by decide)
  have h1:=Nat.div_add_mod x (4294967296 ^ i)
  have h2:=Nat.div_add_mod y (4294967296 ^ i)
  have h3:=Nat.mod_lt x hQ
  have h4:=Nat.mod_lt y hQ
  generalize x / 4294967296 ^ i = qx at *
  generalize y / 4294967296 ^ i = qy at *
  generalize x % 4294967296 ^ i = rx at *
  generalize y % 4294967296 ^ i = ry at *
  generalize 4294967296 ^ i = Q at *
  split
  · rename_i hc
    have hq:qy < qx:=by
      rcases Nat.lt_or_ge qy qx with h | h
      · exact h
      · have:=Nat.mul_le_mul_left Q h;omega
    have e:x - y = (Q + rx - ry) + Q * (qx - qy - 1):=by
      have h5:Q * (qx - qy - 1) = Q * qx - Q * qy - Q:=by rw [Nat.mul_sub,Nat.mul_sub,Nat.mul_one]
      have h6:Q * (qy + 1)≤Q * qx:=Nat.mul_le_mul_left _ hq
      rw [Nat.mul_add,Nat.mul_one] at h6
      omega
    rw [e,Nat.add_mul_div_left _ _ hQ,Nat.div_eq_of_lt (by omega)];omega
  · rename_i hc
    have hq:qy≤qx:=by
      rcases Nat.lt_or_ge qx qy with h | h
      · have:=Nat.mul_le_mul_left Q h;rw [Nat.mul_succ] at this;omega
      · exact h
    have e:x - y = (rx - ry) + Q * (qx - qy):=by
      have h5:Q * (qx - qy) = Q * qx - Q * qy:=Nat.mul_sub _ _ _
      have h6:Q * qy≤Q * qx:=Nat.mul_le_mul_left _ hq
      omega
    rw [e,Nat.add_mul_div_left _ _ hQ,Nat.div_eq_of_lt (by omega)];omega
theorem ref_Sub_loop (x y:Nat) (hx:blen x≤1000000000) (h:y≤x):∀ (d i:Nat),i + d = blen x →
    Ev (fun k => sconceref03_Sub.l0 k (big x) (big y) (dgs 4294967296 i (x - y)) (if x % 4294967296 ^ i < y % 4294967296 ^ i then -1 else 0) (blen x:Int) (i:Int)) (big (x - y)):=by
  intro d
  induction d with
  | zero =>
    intro i hi
    refine Ev.step (fun k => by rw [sconceref03_Sub.l0]) (ev_neg (by omega) ?_)
    refine ev_bind (sp_trim' (x:=x - y) (dgs_dg (by decide) _ _) (by rw [dgs_length];omega) ?_) (ev_const rfl)
    rw [num_dgs,Nat.mod_eq_of_lt]
    exact Nat.lt_of_le_of_lt (Nat.sub_le _ _) (by rw [show i = blen x by omega];exact blen_lt x)
  | succ d ih =>
    intro i hi
    refine Ev.step (fun k => by rw [sconceref03_Sub.l0,w64_succ (by omega),rdA,at0_big]) ?_
    refine ev_pos (by omega) (ev_pos (by omega) (ev_pos (by rw [big_length];omega) (ev_bind0 (sp_digit_big y i) (ev_pos (by rw [dgs_length];omega) ?_))))
    have hn:=ih (i + 1) (by omega)
    have hb:=borrow_next x y i
    have hs:=sub_digit x y i h
    have hq:=Nat.div_le_div_right (c:=4294967296 ^ i) h
    have hq2:(if x % 4294967296 ^ i < y % 4294967296 ^ i then 1 else 0)≤x / 4294967296 ^ i - y / 4294967296 ^ i:=by
      split
      · rename_i hc
        have h1:=Nat.div_add_mod x (4294967296 ^ i)
        have h2:=Nat.div_add_mod y (4294967296 ^ i)
        rcases Nat.lt_or_ge (y / 4294967296 ^ i) (x / 4294967296 ^ i) with h3 | h3
        · omega
        · have:x / 4294967296 ^ i = y / 4294967296 ^ i:=by omega
          rw [this] at h1;omega
      · omega
    rw [dgs_snoc,hs] at hn
    have hc1:(if x % 4294967296 ^ i < y % 4294967296 ^ i then (-1:Int) else 0) = -((if x % 4294967296 ^ i < y % 4294967296 ^ i then 1 else 0:Nat):Int):=by split <;> rfl
    have hc2:(if x % 4294967296 ^ (i + 1) < y % 4294967296 ^ (i + 1) then (-1:Int) else 0) = if (x / 4294967296 ^ i % 4294967296 < y / 4294967296 ^ i % 4294967296 + (if x % 4294967296 ^ i < y % 4294967296 ^ i then 1 else 0)) then (-1:Int) else 0:=by
      simp only [hb]
    rw [hc2] at hn
    rw [hc1]
    have hbb:(if x % 4294967296 ^ i < y % 4294967296 ^ i then 1 else 0:Nat)≤1:=by split <;> omega
    generalize (if x % 4294967296 ^ i < y % 4294967296 ^ i then 1 else 0:Nat) = b at *
    generalize x / 4294967296 ^ i = qx at *
    generalize y / 4294967296 ^ i = qy at *
    have e1:wrap64 (-(b:Int) + wrap64 (wrap64 ((qx % 4294967296:Nat):Int) - wrap64 ((qy % 4294967296:Nat):Int))) = ((qx % 4294967296:Nat):Int) - ((qy % 4294967296:Nat):Int) - b:=by
      have hx1:=Nat.mod_lt qx (show 0 < 4294967296 by decide)
      have hy1:=Nat.mod_lt qy (show 0 < 4294967296 by decide)
      generalize qx % 4294967296 = dx at *
      generalize qy % 4294967296 = dy at *
      rw [w64 (n:=(dx:Int)) (by omega) (by omega),w64 (n:=(dy:Int)) (by omega) (by omega),w64 (n:=(dx:Int) - dy) (by omega) (by omega),w64 (by omega) (by omega)]
      omega
    rw [e1]
    have e2:(((qx % 4294967296:Nat):Int) - ((qy % 4294967296:Nat):Int) - b) % 4294967296 = (((qx - qy - b) % 4294967296:Nat):Int):=by
      have k1:((qx - qy - b:Nat):Int) = (qx:Int) - qy - b:=by omega
      have k2:(((qx - qy - b) % 4294967296:Nat):Int) = ((qx:Int) - qy - b) % 4294967296:=by rw [Int.natCast_emod,k1];rfl
      rw [k2]
      have k3:=Nat.div_add_mod qx 4294967296
      have k4:=Nat.div_add_mod qy 4294967296
      generalize qx % 4294967296 = dx at *
      generalize qy % 4294967296 = dy at *
      generalize qx / 4294967296 = ex at *
      generalize qy / 4294967296 = ey at *
      clear hn hc1 hc2 e1 hs hb ih k1 k2
      omega
    have e3:(((qx % 4294967296:Nat):Int) - ((qy % 4294967296:Nat):Int) - b) / 4294967296 = if qx % 4294967296 < qy % 4294967296 + b then -1 else 0:=by
      have hx1:=Nat.mod_lt qx (show 0 < 4294967296 by decide)
      have hy1:=Nat.mod_lt qy (show 0 < 4294967296 by decide)
      generalize qx % 4294967296 = dx at *
      generalize qy % 4294967296 = dy at *
      clear hn hc1 hc2 e1 e2 hs hb ih
      split <;> omega
    rw [e2,e3]
    exact hn
theorem sp_Sub {x y:Nat} (hx:blen x≤1000000000) (h:y≤x):Ev (fun k => sconceref03_Sub.f k (big x) (big y)) (big (x - y)):=by
  unfold sconceref03_Sub.f
  have h:=ref_Sub_loop x y hx h (blen x) 0 (by omega)
  rw [big_length]
  simpa [dgs,Nat.mod_one] using h
theorem shl_div (x s i:Nat):x * 2 ^ s / 4294967296 ^ i = x / 4294967296 ^ i * 2 ^ s + x % 4294967296 ^ i * 2 ^ s / 4294967296 ^ i:=by
  have hQ:0 < 4294967296 ^ i:=Nat.pow_pos (by decide)
  have h1:=Nat.div_add_mod x (4294967296 ^ i)
  have e:x * 2 ^ s = x % 4294967296 ^ i * 2 ^ s + 4294967296 ^ i * (x / 4294967296 ^ i * 2 ^ s):=by
    conv => lhs;rw [← h1]
    rw [Nat.add_mul,Nat.mul_assoc];omega
  conv => lhs;rw [e,Nat.add_mul_div_left _ _ hQ]
  omega
theorem shl_carry_lt (x s i:Nat):x % 4294967296 ^ i * 2 ^ s / 4294967296 ^ i < 2 ^ s:=by
  have hQ:0 < 4294967296 ^ i:=Nat.pow_pos (by decide)
  rw [Nat.div_lt_iff_lt_mul hQ,Nat.mul_comm (2 ^ s)]
  exact (Nat.mul_lt_mul_right (Nat.pow_pos (by decide))).2 (Nat.mod_lt x hQ)
theorem ref_Shl_loop (x n:Nat) (hx:blen x≤1000000000) (hn:n≤1000000000):∀ (d i:Nat),i + d = blen x →
    Ev (fun k => sconceref03_Shl.l0 k (n:Int) (dgs 4294967296 (n / 32 + i) (x * 2 ^ n)) ((x % 4294967296 ^ i * 2 ^ (n % 32) / 4294967296 ^ i:Nat):Int) (big x) (blen x:Int) (i:Int)) (big (x * 2 ^ n)):=by
  have hsplit:x * 2 ^ n = x * 2 ^ (n % 32) * 4294967296 ^ (n / 32):=by
    rw [H_pow,Nat.mul_assoc,← Nat.pow_add];congr 2;omega
  have hs32:2 ^ (n % 32)≤2147483648:=by
    have:2 ^ (n % 32)≤2 ^ 31:=Nat.pow_le_pow_right (by decide) (by omega)
    exact this
  have hdig:∀ i,x * 2 ^ n / 4294967296 ^ (n / 32 + i) = x * 2 ^ (n % 32) / 4294967296 ^ i:=fun i => by
    rw [hsplit,Nat.pow_add,← Nat.div_div_eq_div_mul,Nat.mul_div_cancel _ (Nat.pow_pos (by decide))]
  intro d
  induction d with
  | zero =>
    intro i hi
    have hq:x / 4294967296 ^ i = 0:=Nat.div_eq_of_lt (by rw [show i = blen x by omega];exact blen_lt x)
    have hc:=shl_carry_lt x (n % 32) i
    have hd:=shl_div x (n % 32) i
    rw [hq,Nat.zero_mul,Nat.zero_add] at hd
    refine Ev.step (fun k => by rw [sconceref03_Shl.l0]) (ev_neg (by omega) (ev_pos (by rw [dgs_length];omega) ?_))
    refine ev_bind (sp_trim' (x:=x * 2 ^ n) ?_ ?_ ?_) (ev_const rfl)
    · rw [dg_append];exact ⟨dgs_dg (by decide) _ _,by rw [dg_cons];exact ⟨by omega,dg_nil⟩⟩
    · rw [List.length_append,dgs_length];simp;omega
    · rw [num_snoc,num_dgs,dgs_length]
      have hm:=Nat.div_add_mod (x * 2 ^ n) (4294967296 ^ (n / 32 + i))
      rw [hdig,hd] at hm
      generalize x % 4294967296 ^ i * 2 ^ (n % 32) / 4294967296 ^ i = c at *
      rw [show ((c:Int) % 4294967296).toNat = c by omega]
      omega
  | succ d ih =>
    intro i hi
    have e1:Int.tmod (n:Int) 32 = ((n % 32:Nat):Int):=by rw [Int.tmod_eq_emod_of_nonneg (by omega)];omega
    have e2:IntKind.u64.wrap ((n % 32:Nat):Int) = ((n % 32:Nat):Int):=by rw [wU];omega
    refine Ev.step (fun k => by rw [sconceref03_Shl.l0,w64_succ (by omega),rdA,at0_big,e1,e2]) ?_
    refine ev_pos (by omega) (ev_pos (by omega) (ev_pos (by rw [big_length];omega) (ev_pos (by omega) (ev_pos (by rw [dgs_length];omega) ?_))))
    have hn':=ih (i + 1) (by omega)
    have hc:=shl_carry_lt x (n % 32) i
    have hd:=shl_div x (n % 32) i
    have hdx:=Nat.mod_lt (x / 4294967296 ^ i) (show 0 < 4294967296 by decide)
    have e3:x % 4294967296 ^ (i + 1) * 2 ^ (n % 32) / 4294967296 ^ (i + 1) = (x / 4294967296 ^ i % 4294967296 * 2 ^ (n % 32) + x % 4294967296 ^ i * 2 ^ (n % 32) / 4294967296 ^ i) / 4294967296:=by
      have hQ:0 < 4294967296 ^ i:=Nat.pow_pos (by decide)
      have f1:x % 4294967296 ^ (i + 1) = x % 4294967296 ^ i + 4294967296 ^ i * (x / 4294967296 ^ i % 4294967296):=by rw [Nat.pow_succ,Nat.mod_mul]
      rw [f1,Nat.pow_succ,← Nat.div_div_eq_div_mul]
      congr 1
      rw [Nat.add_mul,Nat.mul_assoc,Nat.add_mul_div_left _ _ hQ];omega
    rw [show n / 32 + (i + 1) = (n / 32 + i) + 1 by omega,dgs_snoc,hdig,hd,e3] at hn'
    have e4:shl .u64 (IntKind.u64.wrap ((x / 4294967296 ^ i % 4294967296:Nat):Int)) ((n % 32:Nat):Int) = ((x / 4294967296 ^ i % 4294967296 * 2 ^ (n % 32):Nat):Int):=by
      unfold shl
      rw [Int.toNat_natCast,Nat.min_eq_left (by simp [IntKind.bits];omega),wU,wU]
      have hp:((2 ^ (n % 32):Nat):Int) = 2 ^ (n % 32):=by simp
      rw [← hp]
      generalize 2 ^ (n % 32) = p at *
      generalize x / 4294967296 ^ i % 4294967296 = z at *
      have hz:z * p≤4294967295 * 2147483648:=Nat.mul_le_mul (by omega) hs32
      rw [show ((z:Int) % 18446744073709551616) = (z:Int) by omega,← Int.natCast_mul]
      omega
    rw [e4]
    generalize hcc:x % 4294967296 ^ i * 2 ^ (n % 32) / 4294967296 ^ i = c at *
    have hmz:x / 4294967296 ^ i % 4294967296 * 2 ^ (n % 32)≤4294967295 * 2147483648:=Nat.mul_le_mul (by omega) hs32
    have e5:Go.bits .or .u64 (c:Int) ((x / 4294967296 ^ i % 4294967296 * 2 ^ (n % 32):Nat):Int) = ((x / 4294967296 ^ i % 4294967296 * 2 ^ (n % 32) + c:Nat):Int):=by
      have hor:=b_or_add (a:=((x / 4294967296 ^ i % 4294967296 * 2 ^ (n % 32):Nat):Int)) (b:=(c:Int)) (n % 32) (by omega) (by omega) (by omega) (by omega) (by
        have hp:((2 ^ (n % 32):Nat):Int) = 2 ^ (n % 32):=by simp
        rw [← hp,Int.natCast_mul];exact Int.mul_emod_left _ _) (by
        have hp:((2 ^ (n % 32):Nat):Int) = 2 ^ (n % 32):=by simp
        rw [← hp];omega)
      rw [u64_or _ _ (by omega) (by omega) (by omega) (by omega)] at hor
      rw [u64_or _ _ (by omega) (by omega) (by omega) (by omega),Nat.or_comm,hor]
      omega
    rw [e5]
    have e6:((x / 4294967296 ^ i % 4294967296 * 2 ^ (n % 32) + c:Nat):Int) % 4294967296 = (((x / 4294967296 ^ i * 2 ^ (n % 32) + c) % 4294967296:Nat):Int):=by
      have:(x / 4294967296 ^ i * 2 ^ (n % 32) + c) % 4294967296 = (x / 4294967296 ^ i % 4294967296 * 2 ^ (n % 32) + c) % 4294967296:=by
        rw [Nat.add_mod,Nat.mul_mod,← Nat.mod_mul_mod] <;> simp [Nat.add_mod,Nat.mul_mod]
      rw [this];omega
    have e7:((x / 4294967296 ^ i % 4294967296 * 2 ^ (n % 32) + c:Nat):Int) / 4294967296 = (((x / 4294967296 ^ i % 4294967296 * 2 ^ (n % 32) + c) / 4294967296:Nat):Int):=by omega
    rw [e6,e7]
    exact hn'
theorem sp_Shl {x n:Nat} (hx:blen x≤1000000000) (hn:n≤1000000000):Ev (fun k => sconceref03_Shl.f k (big x) (n:Int)) (big (x * 2 ^ n)):=by
  unfold sconceref03_Shl.f
  have e1:wrap64 (Int.tdiv (n:Int) 32) = ((n / 32:Nat):Int):=by rw [Int.tdiv_eq_ediv_of_nonneg (by omega),w64 (by omega) (by omega)];omega
  have e2:wrap64 ((wrap64 (((n / 32:Nat):Int) + ((big x).length:Int))) + 1) = ((n / 32 + blen x + 1:Nat):Int):=by rw [big_length];unfold wrap64;omega
  rw [e1,e2,Int.toNat_natCast,Int.toNat_natCast]
  refine ev_pos (by omega) (ev_pos (by omega) (ev_pos (by omega) ?_))
  have h:=ref_Shl_loop x n hx hn (blen x) 0 (by omega)
  rw [big_length]
  have e3:dgs 4294967296 (n / 32) (x * 2 ^ n) = List.replicate (n / 32) 0:=by
    rw [← dgs_mod,show x * 2 ^ n % 4294967296 ^ (n / 32) = 0 from ?_,dgs_zero]
    have hsplit:x * 2 ^ n = x * 2 ^ (n % 32) * 4294967296 ^ (n / 32):=by
      rw [H_pow,Nat.mul_assoc,← Nat.pow_add];congr 2;omega
    rw [hsplit,Nat.mul_mod_left]
  rw [Nat.add_zero,e3] at h
  simpa [Nat.mod_one] using h
theorem ref_Same_loop (a b:List Int) (hn:a.length≤1000000000000) (hl:a.length = b.length):∀ (d i:Nat),i + d = a.length→(∀ j,j < i→at0 a j = at0 b j) →
    Ev (fun k => sconceref03_Same.l0 k a b (a.length:Int) (i:Int)) (decide (a = b)):=by
  intro d
  induction d with
  | zero =>
    intro i hi h
    refine Ev.step (fun k => by rw [sconceref03_Same.l0]) (ev_neg (by omega) (ev_const ?_))
    have:a = b:=ext_at0 hl (fun j hj => h j (by omega))
    simp [this]
  | succ d ih =>
    intro i hi h
    refine Ev.step (fun k => by rw [sconceref03_Same.l0,w64_succ (by omega),rdA,rdA]) ?_
    refine ev_pos (by omega) (ev_pos (by omega) (ev_pos (by omega) (ev_pos (by omega) ?_)))
    by_cases he:at0 a i = at0 b i
    · exact ev_pos he (ih (i + 1) (by omega) (fun j hj => by
        by_cases e:j = i
        · subst e;exact he
        · exact h j (by omega)))
    · refine ev_neg he (ev_const ?_)
      have:¬ a = b:=fun e => he (by rw [e])
      simp [this]
theorem sp_Same {a b:List Int} (hn:a.length≤1000000000000):Ev (fun k => sconceref03_Same.f k a b) (decide (a = b)):=by
  unfold sconceref03_Same.f
  by_cases hl:a.length = b.length
  · exact ev_pos (by omega) (ref_Same_loop a b hn hl a.length 0 (by omega) (fun j hj => by omega))
  · refine ev_neg (by omega) (ev_const ?_)
    have:¬ a = b:=fun e => hl (by rw [e])
    simp [this]
end Go.Proofs.Ytonpekldcnankaa.X
end
section
namespace Go.Proofs.Ytonpekldcnankaa.X
open Go.RowKit Go.Proofs.YtonpekldcnankaaW.PrintWords Go.Proofs.YtonpekldcnankaaW.PrintLast Go.Proofs.YtonpekldcnankaaW.PrintMore Go.Proofs.Ytonpekldcnankaa.Ma
set_option linter.unusedVariables false
theorem b_or_comm {a b:Int} (h0:0≤a) (h1:a < 18446744073709551616) (h2:0≤b) (h3:b < 18446744073709551616):Go.bits .or .u64 a b = Go.bits .or .u64 b a:=by
  rw [u64_or a b h0 h1 h2 h3,u64_or b a h2 h3 h0 h1,Nat.or_comm]
theorem ref_Mul_inner (a b:Nat) (ha:blen a≤100000000) (hb:blen b≤100000000) (i:Nat) (hi:i < blen a) (S:Nat) (hS:S = (a % 4294967296 ^ i) * b)
    (K:List Int→Prop) (r:List Int)
    (hK:∀ out,out.length = blen a + blen b→dg ((4294967296:Nat):Int) out→(∀ t,i + 1 + blen b≤t→at0 out t = 0)→num 4294967296 out = (a % 4294967296 ^ (i + 1)) * b→Ev (fun k => sconceref03_Mul.l0 k (big b) out (big a) (blen a:Int) ((i:Int) + 1)) r) :
    ∀ (d j c:Nat) (out:List Int),j + d = blen b→out.length = blen a + blen b→dg ((4294967296:Nat):Int) out→(∀ t,i + blen b≤t→at0 out t = 0)→c < 4294967296 →
      num 4294967296 out + c * 4294967296 ^ (i + j) = S + (a / 4294967296 ^ i % 4294967296) * (b % 4294967296 ^ j) * 4294967296 ^ i →
      Ev (fun k => sconceref03_Mul.l1 k (big b) out (i:Int) ((a / 4294967296 ^ i % 4294967296:Nat):Int) (c:Int) (big a) (blen a:Int) (i:Int) (big b) (blen b:Int) (j:Int)) r:=by
  intro d
  induction d with
  | zero =>
    intro j c out hj hl hdg hz hc h
    have hjb:j = blen b:=by clear h hK;omega
    subst hjb
    have hbm:b % 4294967296 ^ blen b = b:=Nat.mod_eq_of_lt (blen_lt b)
    rw [hbm] at h
    replace h:=Aside0.mk h
    clear hbm
    have hlt:i + blen b < out.length:=by omega
    have e1:wrap64 ((i:Int) + ((big b).length:Int)) = ((i + blen b:Nat):Int):=by rw [big_length,w64 (by omega) (by omega)];omega
    refine Ev.step (fun k => sconceref03_Mul.l1.eq_2 ..) (ev_neg (by omega) ?_)
    rw [e1,w64_succ (i:=i) (by omega)]
    refine ev_pos (by omega) (ev_pos (by omega) ?_)
    rw [Int.toNat_natCast,show (c:Int) % 4294967296 = (c:Int) by omega]
    have hs:=num_set (B:=4294967296) (c:Int) hlt
    rw [hz _ (Nat.le_refl _)] at hs
    simp only [Int.toNat_natCast,Int.toNat_zero,Nat.zero_mul,Nat.add_zero] at hs
    have hn:=hK (out.set (i + blen b) (c:Int)) (by rw [List.length_set];exact hl) (dg_set hdg ⟨by omega,by omega⟩ _) (fun t ht => by rw [at0_set hlt,if_neg (by omega),hz t (by omega)]) (by
      rw [hs,h.out,hS,Nat.pow_succ,Nat.mod_mul,Nat.add_mul];congr 1;ac_rfl)
    simpa using hn
  | succ d ih =>
    intro j c out hj hl hdg hz hc h
    replace h:=Aside0.mk h
    have hjb:j < blen b:=by omega
    have hlt:i + j < out.length:=by omega
    have e1:wrap64 ((i:Int) + (j:Int)) = ((i + j:Nat):Int):=by rw [w64 (by omega) (by omega)];omega
    refine Ev.step (fun k => sconceref03_Mul.l1.eq_2 ..) (ev_pos (by omega) (ev_pos (by omega) (ev_pos (by rw [big_length];omega) ?_)))
    rw [e1,w64_succ (i:=j) (by omega)]
    refine ev_pos (by omega) (ev_pos (by omega) ?_)
    rw [Int.toNat_natCast,rdA,rdA,at0_big]
    have ho:=at0_dg (by decide) hdg (i + j)
    have hx:=Nat.mod_lt (a / 4294967296 ^ i) (show 0 < 4294967296 by decide)
    have hy:=Nat.mod_lt (b / 4294967296 ^ j) (show 0 < 4294967296 by decide)
    have hst:=mul_step (b:=big b) (by rw [num_big];exact h.out) hlt
    clear h
    rw [num_big] at hst
    replace hst:=Aside0.mk hst
    generalize hX:a / 4294967296 ^ i % 4294967296 = x at *
    generalize hY:b / 4294967296 ^ j % 4294967296 = y at *
    obtain ⟨o,hO⟩:∃ o:Nat,at0 out (i + j) = (o:Int):=Int.eq_ofNat_of_zero_le ho.1
    rw [hO] at hst ho ⊢
    rw [Int.toNat_natCast] at hst
    have hxy:x * y≤4294967295 * 4294967295:=Nat.mul_le_mul (by omega) (by omega)
    have e2:IntKind.u64.wrap ((c:Int) + IntKind.u64.wrap (IntKind.u64.wrap (IntKind.u64.wrap (x:Int) * IntKind.u64.wrap (y:Int)) + IntKind.u64.wrap (o:Int))) = ((x * y + o + c:Nat):Int):=by
      have q1:IntKind.u64.wrap (x:Int) = (x:Int):=by rw [wU];omega
      have q2:IntKind.u64.wrap (y:Int) = (y:Int):=by rw [wU];omega
      have q3:(x:Int) * (y:Int) = ((x * y:Nat):Int):=by rw [Int.natCast_mul]
      rw [q1,q2,q3]
      generalize x * y = p at *
      simp only [wU];omega
    rw [e2]
    generalize hT:x * y + o + c = T at *
    have hTb:T < 18446744073709551616:=by generalize x * y = p at *;omega
    have e3:(T:Int) % 4294967296 = ((T % 4294967296:Nat):Int):=by omega
    have e4:(T:Int) / 4294967296 = ((T / 4294967296:Nat):Int):=by omega
    rw [e3,e4]
    exact ih (j + 1) (T / 4294967296) (out.set (i + j) ((T % 4294967296:Nat):Int)) (by omega) (by rw [List.length_set];exact hl) (dg_set hdg ⟨by omega,by omega⟩ _) (zero_set hlt (by omega) _ hz) (by omega) hst.out
theorem ref_Mul_outer (a b:Nat) (ha:blen a≤100000000) (hb:blen b≤100000000):∀ (d i:Nat) (out:List Int),i + d = blen a→out.length = blen a + blen b→dg ((4294967296:Nat):Int) out →
    (∀ t,i + blen b≤t→at0 out t = 0)→num 4294967296 out = (a % 4294967296 ^ i) * b →
    Ev (fun k => sconceref03_Mul.l0 k (big b) out (big a) (blen a:Int) (i:Int)) (big (a * b)):=by
  intro d
  induction d with
  | zero =>
    intro i out hi hl hdg hz h
    refine Ev.step (fun k => sconceref03_Mul.l0.eq_2 ..) (ev_neg (by omega) (ev_bind (sp_trim' (x:=a * b) hdg (by omega) ?_) (ev_const rfl)))
    rw [h,show i = blen a by omega,Nat.mod_eq_of_lt (blen_lt a)]
  | succ d ih =>
    intro i out hi hl hdg hz h
    refine Ev.step (fun k => (sconceref03_Mul.l0.eq_2 ..).trans (by rw [big_length])) (ev_pos (by omega) (ev_pos (by omega) (ev_pos (by omega) ?_)))
    rw [rdA,at0_big,big_length]
    exact ref_Mul_inner a b ha hb i (by omega) _ rfl (fun _ => True) _ (fun out' q1 q2 q3 q4 => by have:=ih (i + 1) out' (by omega) q1 q2 q3 q4;simpa using this) (blen b) 0 0 out (by omega) hl hdg hz (by decide) (by simp [h,Nat.mod_one])
theorem sp_ref_Mul {a b:Nat} (ha:blen a≤100000000) (hb:blen b≤100000000):Ev (fun k => sconceref03_Mul.f k (big a) (big b)) (big (a * b)):=by
  unfold sconceref03_Mul.f
  have e1:wrap64 (((big a).length:Int) + ((big b).length:Int)) = ((blen a + blen b:Nat):Int):=by rw [big_length,big_length,w64 (by omega) (by omega)];omega
  rw [e1]
  refine ev_pos (by omega) (ev_pos (by rw [Int.toNat_natCast];omega) ?_)
  rw [Int.toNat_natCast,big_length]
  refine ref_Mul_outer a b ha hb (blen a) 0 _ (by omega) (List.length_replicate) ?_ ?_ ?_
  · intro x hx;rw [(List.mem_replicate.1 hx).2];decide
  · intro t _
    unfold at0
    by_cases ht:t < blen a + blen b
    · simp [ht]
    · simp [ht]
  · rw [num_replicate];simp [Nat.mod_one]
theorem mod_shr (y s:Nat) (hs:s≤32):(y % (4294967296 * 4294967296)) / 2 ^ s % 4294967296 = y / 2 ^ s % 4294967296:=by
  have hp:0 < 2 ^ s:=Nat.pow_pos (by decide)
  have e:4294967296 * 4294967296 = 2 ^ s * (2 ^ (32 - s) * 4294967296):=by
    rw [← Nat.mul_assoc,← Nat.pow_add,show s + (32 - s) = 32 by omega]
  rw [e,Nat.mod_mul_right_div_self,Nat.mul_comm (2 ^ (32 - s)),Nat.mod_mul_right_mod]
theorem ref_Shr_loop (x n:Nat) (hx:blen x≤100000000) (hn:n≤1000000000):∀ (d t:Nat),n / 32 + t + d = max (blen x) (n / 32 + t)→(t = 0∨n / 32 + t≤blen x) →
    Ev (fun k => sconceref03_Shr.l0 k (big x) (n:Int) (dgs 4294967296 t (x / 2 ^ n)) ((n / 32 + t:Nat):Int)) (big (x / 2 ^ n)):=by
  have hdig:∀ t,x / 2 ^ n / 4294967296 ^ t = x / 4294967296 ^ (n / 32 + t) / 2 ^ (n % 32):=by
    intro t
    rw [Nat.div_div_eq_div_mul,Nat.div_div_eq_div_mul,H_pow,H_pow,← Nat.pow_add,← Nat.pow_add]
    congr 2;omega
  have hS:IntKind.u64.wrap (Int.tmod (n:Int) 32) = ((n % 32:Nat):Int):=by rw [Int.tmod_eq_emod_of_nonneg (by omega),wU];omega
  intro d
  induction d with
  | zero =>
    intro t hd ht
    refine Ev.step (fun k => sconceref03_Shr.l0.eq_2 ..) (ev_neg (by rw [big_length];omega) (ev_bind (sp_trim' (x:=x / 2 ^ n) (dgs_dg (by decide) _ _) (by rw [dgs_length];omega) ?_) (ev_const rfl)))
    rw [num_dgs]
    refine Nat.mod_eq_of_lt ?_
    have h0:x / 2 ^ n / 4294967296 ^ t = 0:=by
      rw [hdig,Nat.div_eq_of_lt (Nat.lt_of_lt_of_le (blen_lt x) (Nat.pow_le_pow_right (by decide) (by omega))),Nat.zero_div]
    exact (Nat.div_eq_zero_iff_lt (Nat.pow_pos (by decide))).1 h0
  | succ d ih =>
    intro t hd ht
    have hi:n / 32 + t < blen x:=by omega
    refine Ev.step (fun k => sconceref03_Shr.l0.eq_2 ..) (ev_pos (by rw [big_length];omega) (ev_pos (by omega) ?_))
    have e1:wrap64 (((n / 32 + t:Nat):Int) + 1) = ((n / 32 + (t + 1):Nat):Int):=by rw [w64 (by omega) (by omega)];omega
    rw [e1,hS]
    refine ev_bind0 (sp_digit_big x (n / 32 + (t + 1))) (ev_pos (by omega) (ev_pos (by rw [dgs_length];omega) ?_))
    have hn:=ih (t + 1) (by omega) (by omega)
    rw [dgs_snoc,hdig,← mod_shr _ _ (show n % 32≤32 by omega)] at hn
    rw [rdA,at0_big]
    have e2:x / 4294967296 ^ (n / 32 + (t + 1)) = x / 4294967296 ^ (n / 32 + t) / 4294967296:=by rw [Nat.div_div_eq_div_mul,← Nat.pow_succ];rfl
    rw [e2]
    generalize x / 4294967296 ^ (n / 32 + t) = y at *
    have e3:y % (4294967296 * 4294967296) = y % 4294967296 + 4294967296 * (y / 4294967296 % 4294967296):=Nat.mod_mul
    have hl:=Nat.mod_lt y (show 0 < 4294967296 by decide)
    have hh:=Nat.mod_lt (y / 4294967296) (show 0 < 4294967296 by decide)
    generalize y % 4294967296 = lo at *
    generalize y / 4294967296 % 4294967296 = hi' at *
    have q1:IntKind.u64.wrap (lo:Int) = (lo:Int):=by rw [wU];omega
    have q2:IntKind.u64.wrap (IntKind.u64.wrap (hi':Int) * 4294967296) = ((hi' * 4294967296:Nat):Int):=by simp only [wU];omega
    have q3:Go.bits .or .u64 (lo:Int) ((hi' * 4294967296:Nat):Int) = ((lo + 4294967296 * hi':Nat):Int):=by
      rw [b_or_comm (by omega) (by omega) (by omega) (by omega),b_or_add 32 (by omega) (by omega) (by omega) (by omega) (by simp) (by simp;omega)];omega
    rw [q1,q2,q3,← e3]
    have q4:shr .u64 ((y % (4294967296 * 4294967296):Nat):Int) ((n % 32:Nat):Int) % 4294967296 = ((y % (4294967296 * 4294967296) / 2 ^ (n % 32) % 4294967296:Nat):Int):=by
      unfold shr
      rw [Int.toNat_natCast,show min (n % 32) IntKind.u64.bits = n % 32 from Nat.min_eq_left (by show n % 32≤64;omega)]
      simp
    rw [q4]
    exact hn
theorem sp_ref_Shr {x n:Nat} (hx:blen x≤100000000) (hn:n≤1000000000):Ev (fun k => sconceref03_Shr.f k (big x) (n:Int)) (big (x / 2 ^ n)):=by
  unfold sconceref03_Shr.f
  have e1:wrap64 (Int.tdiv (n:Int) 32) = ((n / 32 + 0:Nat):Int):=by rw [Int.tdiv_eq_ediv_of_nonneg (by omega),w64 (by omega) (by omega)];omega
  rw [e1]
  exact ref_Shr_loop x n hx hn (max (blen x) (n / 32) - n / 32) 0 (by omega) (.inl rfl)
theorem ref_divSmall_loop (a d:Nat) (ha:blen a≤100000000) (hd0:d≠0) (hd:d < 4294967296):∀ (i:Nat) (out:List Int),i≤blen a→out.length = blen a→dg ((4294967296:Nat):Int) out→(∀ t,t < i→at0 out t = 0) →
    num 4294967296 out = 4294967296 ^ i * (a / 4294967296 ^ i / d) →
    Ev (fun k => sconceref03_divSmall.l0 k (big a) (d:Int) out ((a / 4294967296 ^ i % d:Nat):Int) ((i:Int) - 1)) (big (a / d),big (a % d)):=by
  intro i
  induction i with
  | zero =>
    intro out _ hl hdg hz h
    refine Ev.step (fun k => sconceref03_divSmall.l0.eq_2 ..) (ev_neg (by omega) (ev_bind (sp_trim' (x:=a / d) hdg (by omega) (by rw [h];simp)) (ev_bind (sp_Small (w:=a / 4294967296 ^ 0 % d) ?_) (ev_const (by simp)))))
    have:=Nat.mod_lt (a / 4294967296 ^ 0) (Nat.pos_of_ne_zero hd0);omega
  | succ i ih =>
    intro out hi hl hdg hz h
    have e0:((i + 1:Nat):Int) - 1 = (i:Int):=by omega
    have e1:wrap64 ((i:Int) - 1) = (i:Int) - 1:=w64 (by omega) (by omega)
    have hlt:i < out.length:=by omega
    have qd:IntKind.u64.wrap (d:Int) = (d:Int):=by rw [wU];omega
    refine Ev.step (fun k => sconceref03_divSmall.l0.eq_2 ..) ?_
    rw [e0,e1,qd,rdA,at0_big]
    refine ev_pos (by omega) (ev_pos (by omega) (ev_pos (by rw [big_length];omega) (ev_neg (by omega) (ev_pos (by omega) ?_))))
    have hr:=Nat.mod_lt (a / 4294967296 ^ (i + 1)) (Nat.pos_of_ne_zero hd0)
    have ha':=Nat.mod_lt (a / 4294967296 ^ i) (show 0 < 4294967296 by decide)
    have hs:=num_set (B:=4294967296) (((((a / 4294967296 ^ (i + 1) % d) * 4294967296 + a / 4294967296 ^ i % 4294967296) / d % 4294967296:Nat)):Int) hlt
    rw [hz i (by omega),h,Int.toNat_zero,Nat.zero_mul,Nat.add_zero,Int.toNat_natCast] at hs
    have eY:a / 4294967296 ^ (i + 1) = a / 4294967296 ^ i / 4294967296:=by rw [Nat.div_div_eq_div_mul,← Nat.pow_succ]
    have hn:=fun o q1 q2 q3 q4 => ih o (by omega) q1 q2 q3 q4
    clear ih h
    rw [eY] at hs hr ⊢
    generalize a / 4294967296 ^ i = y at *
    have hy:=Nat.div_add_mod y 4294967296
    generalize y / 4294967296 = u at *
    generalize y % 4294967296 = b at *
    have hu:=Nat.div_add_mod u d
    generalize u / d = Q at *
    generalize u % d = r at *
    have hq : y = d * (4294967296 * Q) + (r * 4294967296 + b) := by rw [← hy, ← hu, Nat.mul_add]; have : 4294967296 * (d * Q) = d * (4294967296 * Q) := by ac_rfl
                                                                    omega
    have hq1:y / d = 4294967296 * Q + (r * 4294967296 + b) / d:=by rw [hq,Nat.mul_add_div (Nat.pos_of_ne_zero hd0)]
    have hq2:y % d = (r * 4294967296 + b) % d:=by rw [hq,Nat.mul_add_mod]
    have hb2:(r * 4294967296 + b) / d < 4294967296:=(Nat.div_lt_iff_lt_mul (Nat.pos_of_ne_zero hd0)).2 (by
      have:r * 4294967296 + 4294967296≤d * 4294967296:=by rw [← Nat.succ_mul];exact Nat.mul_le_mul_right _ hr
      rw [Nat.mul_comm 4294967296 d];omega)
    rw [Nat.mod_eq_of_lt hb2] at hs
    have q2:IntKind.u64.wrap ((r:Int) * 4294967296) = ((r * 4294967296:Nat):Int):=by rw [wU];omega
    have q1:IntKind.u64.wrap (b:Int) = (b:Int):=by rw [wU];omega
    have q3:Go.bits .or .u64 ((r * 4294967296:Nat):Int) (b:Int) = ((r * 4294967296 + b:Nat):Int):=by
      rw [b_or_add 32 (by omega) (by omega) (by omega) (by omega) (by simp) (by simp;omega)];omega
    rw [q2,q1,q3,Int.tdiv_eq_ediv_of_nonneg (by omega),Int.tmod_eq_emod_of_nonneg (by omega),Int.toNat_natCast]
    have q4:IntKind.u64.wrap (((r * 4294967296 + b:Nat):Int) / (d:Int)) % 4294967296 = (((r * 4294967296 + b) / d:Nat):Int):=by
      rw [← Int.natCast_ediv,wU];generalize (r * 4294967296 + b) / d = z at *;omega
    have q5:((r * 4294967296 + b:Nat):Int) % (d:Int) = ((y % d:Nat):Int):=by rw [← Int.natCast_emod,hq2]
    rw [q4,q5]
    refine hn _ (by rw [List.length_set];exact hl) (dg_set hdg ⟨by omega,by omega⟩ _) (fun t ht => by rw [at0_set hlt,if_neg (by omega),hz t (by omega)]) ?_
    rw [hs,hq1,Nat.mul_add,Nat.pow_succ]
    have:4294967296 ^ i * 4294967296 * Q = 4294967296 ^ i * (4294967296 * Q):=Nat.mul_assoc ..
    rw [this,Nat.mul_comm ((r * 4294967296 + b) / d)]
theorem sp_ref_divSmall {a d:Nat} (ha:blen a≤100000000) (hd0:d≠0) (hd:d < 4294967296):Ev (fun k => sconceref03_divSmall.f k (big a) (d:Int)) (big (a / d),big (a % d)):=by
  unfold sconceref03_divSmall.f
  rw [big_length]
  refine ev_pos (by omega) (ev_pos (by rw [Int.toNat_natCast];omega) ?_)
  rw [Int.toNat_natCast,w64 (by omega) (by omega)]
  have h0:a / 4294967296 ^ blen a = 0:=Nat.div_eq_of_lt (blen_lt a)
  have:=ref_divSmall_loop a d ha hd0 hd (blen a) (List.replicate (blen a) 0) (Nat.le_refl _) List.length_replicate (fun x hx => by rw [(List.mem_replicate.1 hx).2];decide) (fun t ht => by unfold at0;simp [ht]) (by rw [num_replicate,h0];simp)
  rw [h0,Nat.zero_mod] at this
  exact this
end Go.Proofs.Ytonpekldcnankaa.X
end
