/- Texts of the walk and of the plain laws, laid together by a program: PsRingHalves, Sp7b, PureRingHalves. -/
import Derived.Test.YtonpekldcnankaaZI0
import Derived.Test.YtonpekldcnankaaZI1
import Derived.Test.YtonpekldcnankaaZI2
import Derived.Test.YtonpekldcnankaaZI5
import Derived.Test.YtonpekldcnankaaZI6
import Derived.Test.YtonpekldcnankaaZI4
import Derived.Test.YtonpekldcnankaaZI9
import Derived.Test.YtonpekldcnankaaZI15
import Derived.Test.YtonpekldcnankaaZI16
import Derived.Test.YtonpekldcnankaaZI17
import Derived.Test.YtonpekldcnankaaZI24
import Derived.Test.YtonpekldcnankaaZI26
import Derived.Test.YtonpekldcnankaaZI27
import Derived.Test.YtonpekldcnankaaZI29
import Derived.Test.YtonpekldcnankaaZI35
import Derived.Test.YtonpekldcnankaaZI36
import Derived.Test.YtonpekldcnankaaZI37
import Derived.Test.YtonpekldcnankaaZI38
import Derived.Test.YtonpekldcnankaaZI39
import Derived.Test.YtonpekldcnankaaZI40
import Derived.Test.YtonpekldcnankaaZI41
section
namespace Go.Proofs.Ytonpekldcnankaa.X
open Go.RowKit
def sconcelaw07_RingHalves.PureS:Prop:=∀ (l0_0:List Int) (b0_1:Int) (l0_2:List Int) (l1:List Int),l0_0.length≤maxLen→(∀ x ∈ l0_0,(Lit.int .u64 x).wf = true)→(Lit.int .u64 b0_1).wf = true→l0_2.length≤maxLen→(∀ x ∈ l0_2,(Lit.int .u64 x).wf = true)→l1.length≤maxLen→(∀ x ∈ l1,(Lit.int .u64 x).wf = true)→∃ k,sconcelaw07_RingHalves.f k l0_0 b0_1 l0_2 l1 = some true
end Go.Proofs.Ytonpekldcnankaa.X
end
section
namespace Go.Proofs.Ytonpekldcnankaa.X
open Go.RowKit Go.Proofs.YtonpekldcnankaaW.PrintWords Go.Proofs.YtonpekldcnankaaW.PrintMore Go.Proofs.YtonpekldcnankaaW.PrintLast Go.Proofs.Ytonpekldcnankaa.Ma
set_option linter.unusedVariables false
set_option linter.unusedSimpArgs false
theorem sp_Bit {x i:Nat} (hx:blen x≤1000000) (hi:i≤1000000000):sconceref03_Bit.f (big x) (i:Int) = some ((x / 2 ^ i % 2:Nat):Int):=by
  have e1:Int.tdiv (i:Int) 32 = ((i / 32:Nat):Int):=by rw [Int.tdiv_eq_ediv_of_nonneg (by omega)];omega
  have e2:Int.tmod (i:Int) 32 = ((i % 32:Nat):Int):=by rw [Int.tmod_eq_emod_of_nonneg (by omega)];omega
  have e3:wrap64 ((i / 32:Nat):Int) = ((i / 32:Nat):Int):=w64 (by omega) (by omega)
  have e4:IntKind.u64.wrap ((i % 32:Nat):Int) = ((i % 32:Nat):Int):=by rw [wU];omega
  unfold sconceref03_Bit.f
  rw [if_neg (by omega),e1,e2,e3,e4,big_length]
  have hp:2 ^ i = 4294967296 ^ (i / 32) * 2 ^ (i % 32):=by
    rw [show (4294967296:Nat) = 2 ^ 32 from rfl,← Nat.pow_mul,← Nat.pow_add,Nat.div_add_mod]
  by_cases h:blen x≤i / 32
  · rw [if_pos (by omega)]
    have hlt:=blen_lt x
    have h2:x < 4294967296 ^ (i / 32):=Nat.lt_of_lt_of_le hlt (Nat.pow_le_pow_right (by decide) h)
    rw [hp,← Nat.div_div_eq_div_mul,Nat.div_eq_of_lt h2,Nat.zero_div]
    rfl
  · rw [if_neg (by omega),if_pos (by omega),if_pos (by omega),if_pos (by omega),rdA,at0_big]
    congr 1
    unfold shr
    rw [show min ((i % 32:Nat):Int).toNat IntKind.u32.bits = i % 32 from by rw [Int.toNat_natCast];exact Nat.min_eq_left (by have:i % 32 < 32:=Nat.mod_lt _ (by decide);exact Nat.le_of_lt this)]
    obtain ⟨y,hy⟩:∃ y,y = x / 4294967296 ^ (i / 32):=⟨_,rfl⟩
    have hs:i % 32 < 32:=Nat.mod_lt _ (by decide)
    rw [hp,← Nat.div_div_eq_div_mul,← hy]
    obtain ⟨s,hse⟩:∃ s,s = i % 32:=⟨_,rfl⟩
    rw [← hse] at hs ⊢
    have hps:0 < 2 ^ s:=Nat.pow_pos (by decide)
    have hcast:((y % 4294967296:Nat):Int) / 2 ^ s = ((y % 4294967296 / 2 ^ s:Nat):Int):=by
      rw [show (2:Int) ^ s = ((2 ^ s:Nat):Int) by simp]
      rfl
    have hle:y % 4294967296 / 2 ^ s≤y % 4294967296:=Nat.div_le_self _ _
    have hlt:y % 4294967296 < 4294967296:=Nat.mod_lt _ (by decide)
    obtain ⟨z,hz⟩:∃ z,z = y % 4294967296 / 2 ^ s:=⟨_,rfl⟩
    rw [← hz] at hle
    rw [hcast,← hz,u32_and _ _ (by omega) (by omega) (by decide) (by decide),Int.toNat_natCast,show (1:Int).toNat = 2 ^ 1 - 1 from rfl,Nat.and_two_pow_sub_one_eq_mod,Nat.pow_one,wU]
    have h32:(4294967296:Nat) = 2 ^ s * (2 * 2 ^ (31 - s)):=by
      rw [← Nat.pow_succ',← Nat.pow_add,show s + (31 - s).succ = 32 by omega]
    have hm:z % 2 = y / 2 ^ s % 2:=by
      rw [hz,h32,Nat.mod_mul_right_div_self,Nat.mod_mul_right_mod]
    rw [hm]
    have:=Nat.mod_lt (y / 2 ^ s) (show 0 < 2 by decide)
    omega
theorem ref7_loop {m rr:List Int} {K:Int} (hm:Wd m) (lm:m.length≤1000) (ls:List (List Int)) (hls:∀ r ∈ ls,Wd r) (hn:ls.length≤1000000):∀ (d i:Nat),i + d = ls.length →
    Ev (fun k => sconceref07_Members.l0 k ls (ls.length:Int) (i:Int) m K rr) ((ls.drop i).all (memB m)):=by
  intro d
  induction d with
  | zero =>
    intro i hi
    refine Ev.step (fun k => sconceref07_Members.l0.eq_2 ..) (ev_neg (by omega) (ev_const ?_))
    rw [List.drop_eq_nil_of_le (by omega)]
    rfl
  | succ d ih =>
    intro i hi
    have hil:i < ls.length:=by omega
    have e:rd_L2 ls (i:Int) = ls[i]:=by rw [rdLI,List.getD_eq_getElem?_getD,List.getElem?_eq_getElem hil,Option.getD_some]
    have e2:wrap64 ((i:Int) + 1) = ((i + 1:Nat):Int):=by rw [w64 (by omega) (by omega)];omega
    refine Ev.step (fun k => sconceref07_Members.l0.eq_2 ..) (ev_pos (by omega) (ev_pos (by omega) (ev_pos (by omega) ?_)))
    rw [e,e2]
    refine ev_bind (sp_ref6_Member hm lm (hls _ (List.getElem_mem hil))) ?_
    rw [List.drop_eq_getElem_cons hil,List.all_cons]
    by_cases h:memB m ls[i] = true
    · rw [h,Bool.true_and]
      exact ev_pos rfl (ih (i + 1) (by omega))
    · rw [Bool.not_eq_true] at h
      rw [h,Bool.false_and]
      exact ev_neg (by decide) (ev_const rfl)
theorem sp_ref7_Members {m rr:List Int} {K:Int} {R:List Int × Int × List Int × Int} (hm:Wd m) (lm:m.length≤1000) (hR:SetR (nW m) R) (ls:List (List Int)) (hls:∀ r ∈ ls,Wd r) (hn:ls.length≤1000000) :
    Ev (fun k => sconceref07_Members.f k m K rr ls) (chkB R m K rr && ls.all (memB m)):=by
  obtain ⟨S,s1,s2⟩:=sp_ref6_Check (rr:=rr) (K:=K) hm lm
  obtain rfl:=hR.uniq s1
  unfold sconceref07_Members.f
  refine ev_bind s2 ?_
  by_cases h:chkB R m K rr = true
  · rw [h,Bool.true_and]
    exact ev_pos rfl (ref7_loop hm lm ls hls hn ls.length 0 (by omega))
  · rw [Bool.not_eq_true] at h
    rw [h,Bool.false_and]
    exact ev_neg (by decide) (ev_const rfl)
theorem sp_out {m rr:List Int} {K:Int} {R:List Int × Int × List Int × Int} (hm:Wd m) (lm:m.length≤300) (hR:SetR (nW m) R) {ls:List (List Int)} (hls:∀ r ∈ ls,Wd r) (v:List Int) :
    Ev (fun k => Rg.out (mont_Check.f k m K rr) m ls v) (if (chkB R m K rr && ls.all (memB m)) = true then (v,0) else ([],1)):=by
  obtain ⟨S,s1,s2⟩:=sp_mont_Check (rr:=rr) (K:=K) hm (by omega)
  obtain rfl:=hR.uniq s1
  unfold Rg.out
  refine ev_pos (Rg.ok_iff.2 ⟨⟨hm,hls⟩,lm⟩) (ev_bind s2 ?_)
  have e:Rg.mem m ls = ls.all (memB m):=rfl
  rw [e]
  by_cases h:chkB R m K rr = true
  · by_cases h2:ls.all (memB m) = true
    · have hr:(if (chkB R m K rr && ls.all (memB m)) = true then (v,(0:Int)) else ([],1)) = (v,0):=if_pos (by rw [h,h2];rfl)
      rw [hr]
      exact ev_pos ⟨h,h2⟩ (ev_const rfl)
    · have hr:(if (chkB R m K rr && ls.all (memB m)) = true then (v,(0:Int)) else ([],1)) = ([],1):=if_neg (by rw [h,Bool.true_and];exact h2)
      rw [hr]
      exact ev_neg (fun g => h2 g.2) (ev_const rfl)
  · have hr:(if (chkB R m K rr && ls.all (memB m)) = true then (v,(0:Int)) else ([],1)) = ([],1):=if_neg (fun g => h (Bool.and_eq_true_iff.1 g).1)
    rw [hr]
    exact ev_neg (fun g => h g.1) (ev_const rfl)
theorem mem_of_all {m:List Int} {ls:List (List Int)} (h:ls.all (memB m) = true):∀ r ∈ ls,r.length = m.length∧nW r < nW m:=fun r hr => by
  have:=List.all_eq_true.1 h r hr
  unfold memB at this
  simpa using this
section
variable {m rr a b:List Int} {K:Int} {R:List Int × Int × List Int × Int}
theorem sp_ref7_Half (hm:Wd m) (lm:m.length≤300) (hR:SetR (nW m) R) (ha:Wd a) :
    Ev (fun k => sconceref07_Half.f k m K rr a) (if (chkB R m K rr && [a].all (memB m)) = true then (wds m.length (if nW a % 2 = 0 then nW a / 2 else (nW a + nW m) / 2),0) else ([],1)):=by
  have hM:=sp_ref7_Members (K:=K) (rr:=rr) hm (by omega) hR [a] (by simp [ha]) (by simp)
  unfold sconceref07_Half.f
  refine ev_bind hM ?_
  by_cases h:(chkB R m K rr && [a].all (memB m)) = true
  · have hmem:=mem_of_all (Bool.and_eq_true_iff.1 h).2
    have m1:=hmem a (by simp)
    have bm:=blen_nW hm
    have ba:=blen_nW ha
    rw [if_pos h]
    have hbit:=sp_Bit (x:=nW a) (i:=0) (by omega) (by decide)
    rw [Nat.pow_zero,Nat.div_one] at hbit
    refine ev_pos h (ev_bind (sp_OfW ha (by omega)) (ev_bind0 hbit ?_))
    by_cases c:nW a % 2 = 0
    · rw [c,if_pos rfl]
      refine ev_neg (by decide) (ev_bind (sp_ref_Shr (x:=nW a) (n:=1) (by omega) (by decide)) (ev_bind (sp_Nat (by omega)) (ev_const rfl)))
    · rw [if_neg c,show nW a % 2 = 1 by omega]
      have hbl:blen (nW a + nW m)≤10001:=blen_add (show blen (nW a)≤10000 by omega) (show blen (nW m)≤10000 by omega)
      exact ev_pos rfl (ev_bind (sp_OfW hm (by omega)) (ev_bind (sp_Add (by omega) (by omega)) (ev_bind (sp_ref_Shr (x:=nW a + nW m) (n:=1) (by omega) (by decide)) (ev_bind (sp_Nat (by omega)) (ev_const rfl)))))
  · rw [if_neg h]
    exact ev_neg h (ev_const rfl)
end
theorem sp_few7 (m:List Int) (K:Int) (rr:List Int) (ls:List (List Int)) (hn:ls.length≤1000000000):Ev (fun k => sconcelaw07_Few.f k m K rr ls) (fewB 40 [m,rr] && fewB 40 ls):=by
  unfold sconcelaw07_Few.f
  refine ev_bind (sp_Few5 _ (by simp)) ?_
  by_cases h:fewB 40 [m,rr] = true
  · rw [h,Bool.true_and]
    exact ev_pos rfl (ev_bind (sp_Few5 _ hn) (ev_const rfl))
  · rw [Bool.not_eq_true] at h
    rw [h,Bool.false_and]
    exact ev_neg (by decide) (ev_const rfl)
theorem sp_as (x:List Int) (e:Int) (y:List Int) (f:Int) (hx:x.length≤1000000000):Ev (fun k => sconcelaw07_as.f k x e y f) (decide (e = f) && decide (x = y)):=by
  unfold sconcelaw07_as.f
  by_cases h:e = f
  · rw [decide_eq_true h,Bool.true_and]
    exact ev_pos h (ev_bind (sp_Same (by omega)) (ev_const rfl))
  · rw [decide_eq_false h,Bool.false_and]
    exact ev_neg h (ev_const rfl)
theorem as_same {x:List Int × Int} (hx:x.1.length≤1000000000):Ev (fun k => sconcelaw07_as.f k x.1 x.2 x.1 x.2) true:=by
  have:=sp_as x.1 x.2 x.1 x.2 hx
  simpa using this
theorem awake7:Ev (fun k => sconcelaw07_awake.f k) true:=Ev.of (fun k => sconcelaw07_awake.mono k) (k:=130) (by kernel_rfl)
end Go.Proofs.Ytonpekldcnankaa.X
end
section
namespace Go.Proofs.Ytonpekldcnankaa.Pure
open Go.RowKit Go.Proofs.Ytonpekldcnankaa.X Go.Proofs.YtonpekldcnankaaW.PrintWords Go.Proofs.YtonpekldcnankaaW.PrintLast Go.Proofs.Ytonpekldcnankaa.Ma
set_option linter.unusedVariables false
set_option linter.unusedSimpArgs false
theorem half_val {a m:Nat} (ha:a < m) (ho:m % 2 = 1):∃ x,(if a % 2 = 0 then a / 2 else (a + m) / 2) = x∧x < m∧(x + x) % m = a:=by
  refine ⟨_,rfl,?_,?_⟩
  · split <;> omega
  · by_cases c:a % 2 = 0
    · rw [if_pos c,show a / 2 + a / 2 = a by omega,Nat.mod_eq_of_lt ha]
    · rw [if_neg c,show (a + m) / 2 + (a + m) / 2 = a + m by omega,Nat.add_mod_right,Nat.mod_eq_of_lt ha]
theorem RingHalves:sconcelaw07_RingHalves.PureS:=by
  intro m K rr a _ hm _ _ _ _ ha
  rw [wf_Wd] at hm ha
  refine Ev.rounds ?_
  unfold sconcelaw07_RingHalves.f
  refine ev_bind awake7 (ev_pos rfl (ev_bind (sp_few7 _ _ _ _ (by simp)) ?_))
  by_cases h:(fewB 40 [m,rr] && fewB 40 [a]) = true
  · have h':(m.length≤40∧rr.length≤40)∧a.length≤40:=by simpa [fewB] using h
    obtain ⟨R,hR,_⟩:=sp_mont_Check (rr:=rr) (K:=K) hm (by omega)
    have hl1:∀ r ∈ [a],Wd r:=by simp [ha]
    have h1:Ev (fun k => ring_Half.f k m K rr a) _:=sp_out (K:=K) (rr:=rr) hm (by omega) hR hl1 (wds m.length (if nW a % 2 = 0 then nW a / 2 else (nW a + nW m) / 2))
    have h2:=sp_ref7_Half (K:=K) (rr:=rr) hm (by omega) hR ha
    refine ev_pos h ?_
    by_cases c:(chkB R m K rr && [a].all (memB m)) = true
    · rw [if_pos c] at h1 h2
      have hI:=isMod_of_chk hR (Bool.and_eq_true_iff.1 c).1
      have hma:=mem_of_all (Bool.and_eq_true_iff.1 c).2 a (by simp)
      obtain ⟨x,x1,x2,x3⟩:=half_val hma.2 hI.2.2.2.1
      rw [x1] at h1 h2
      have hM:=nW_lt hm
      have hx:nW (wds m.length x) = x:=nW_wds (by omega)
      have hl2:∀ r ∈ [wds m.length x,wds m.length x],Wd r:=by simp [wds_Wd]
      have h3:Ev (fun k => ring_Add.f k m K rr (wds m.length x) (wds m.length x)) _:=sp_out (K:=K) (rr:=rr) hm (by omega) hR hl2 (wds m.length ((nW (wds m.length x) + nW (wds m.length x)) % nW m))
      have c3:(chkB R m K rr && [wds m.length x,wds m.length x].all (memB m)) = true:=by
        rw [(Bool.and_eq_true_iff.1 c).1,Bool.true_and]
        have:memB m (wds m.length x) = true:=by unfold memB;rw [hx,dgs_length];simp [x2]
        simp [this]
      rw [if_pos c3,hx,x3] at h3
      have hs:Ev (fun k => sconcelaw07_sum.f k m K rr (wds m.length x) (wds m.length x)) a:=by
        unfold sconcelaw07_sum.f
        refine ev_bind h3 (ev_const ?_)
        show some (wds m.length (nW a)) = some a
        rw [← hma.1,← Wd_eq ha]
      exact ev_bind h1 (ev_bind h2 (ev_bind (as_same (by simp only [dgs_length];omega)) (ev_pos rfl (ev_pos rfl (ev_bind hs (ev_bind (sp_Same (by omega)) (ev_const (by simp))))))))
    · rw [if_neg c] at h1 h2
      exact ev_bind h1 (ev_bind h2 (ev_bind (as_same (by simp)) (ev_pos rfl (ev_neg (by decide) (ev_const rfl)))))
  · exact ev_neg h (ev_const rfl)
end Go.Proofs.Ytonpekldcnankaa.Pure
end
