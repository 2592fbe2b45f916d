/- Texts of the walk and of the plain laws, laid together by a program: Sp5b. -/
import Derived.Test.YtonpekldcnankaaZC20
import Derived.Test.YtonpekldcnankaaZC23
namespace Go.Proofs.Ytonpekldcnankaa.X
open Go.RowKit Go.Proofs.YtonpekldcnankaaW.PrintWords Go.Proofs.YtonpekldcnankaaW.PrintLast Go.Proofs.YtonpekldcnankaaW.PrintMore Go.Proofs.Ytonpekldcnankaa.Ma
set_option linter.unusedVariables false
theorem Few5_loop (ls:List (List Int)) (hn:ls.length≤1000000000):∀ (d i:Nat),i + d = ls.length→Ev (fun k => sconcelaw05_Few.l0 k ls (ls.length:Int) (i:Int)) (fewB 40 (ls.drop i)):=by
  intro d
  induction d with
  | zero =>
    intro i hi
    refine Ev.step (fun k => by rw [sconcelaw05_Few.l0]) (ev_neg (by omega) (ev_const ?_))
    rw [List.drop_of_length_le (by omega)];rfl
  | succ d ih =>
    intro i hi
    refine Ev.step (fun k => by rw [sconcelaw05_Few.l0,w64_succ (by omega),rdLI]) ?_
    refine ev_pos (by omega) (ev_pos (by omega) (ev_pos (by omega) ?_))
    rw [few_step (show i < ls.length by omega)]
    by_cases h:((ls.getD i []).length:Int) > 40
    · refine ev_pos h (ev_const ?_)
      rw [show decide ((ls.getD i []).length≤40) = false from decide_eq_false (by omega)];rfl
    · refine ev_neg h ?_
      rw [show decide ((ls.getD i []).length≤40) = true from decide_eq_true (by omega),Bool.true_and]
      exact ih (i + 1) (by omega)
theorem sp_Few5 (ls:List (List Int)) (hn:ls.length≤1000000000):Ev (fun k => sconcelaw05_Few.f k ls) (fewB 40 ls):=by
  unfold sconcelaw05_Few.f
  exact Few5_loop ls hn ls.length 0 (by omega)
theorem blen_mul {x y m n:Nat} (hx:blen x≤m) (hy:blen y≤n):blen (x * y)≤m + n:=blen_le (by
  rw [Nat.pow_add]
  have h1:=Nat.lt_of_lt_of_le (blen_lt x) (Nat.pow_le_pow_right (show 0 < 4294967296 by decide) hx)
  have h2:=Nat.lt_of_lt_of_le (blen_lt y) (Nat.pow_le_pow_right (show 0 < 4294967296 by decide) hy)
  exact Nat.mul_lt_mul'' h1 h2)
theorem mx_max (a b:Int):mx a b = max a b:=by unfold mx;omega
theorem sp_Least {x:Nat} (hx:blen x≤1000000):Ev (fun k => sconceref03_Least.f k (big x)) (wds (max (wlen x) 1) x):=by
  unfold sconceref03_Least.f sconceref03_Words.f
  refine ev_bind0 rfl ?_
  have hw:wlen x = (blen x + 1) / 2:=by
    unfold wlen blen
    split <;> omega
  have e1:wrap64 (Int.tdiv (wrap64 (((big x).length:Int) + 1)) 2) = (((blen x + 1) / 2:Nat):Int):=by
    rw [big_length,w64 (n:=(blen x:Int) + 1) (by omega) (by omega),Int.tdiv_eq_ediv_of_nonneg (by omega),w64 (by omega) (by omega)]
    omega
  rw [e1,← hw,mx_max]
  refine ev_bind (sp_Nat (x:=x) (n:=max ((wlen x:Nat):Int) 1) (by omega)) (ev_const ?_)
  congr 2
  omega
end Go.Proofs.Ytonpekldcnankaa.X
