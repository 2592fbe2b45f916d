/- Texts of the walk and of the plain laws, laid together by a program: PsRingAdds, Sp6i, Sp7b, PureRingAdds. -/
import Derived.Test.YtonpekldcnankaaZG0
import Derived.Test.YtonpekldcnankaaZG1
import Derived.Test.YtonpekldcnankaaZG2
import Derived.Test.YtonpekldcnankaaZG5
import Derived.Test.YtonpekldcnankaaZG6
import Derived.Test.YtonpekldcnankaaZG9
import Derived.Test.YtonpekldcnankaaZG15
import Derived.Test.YtonpekldcnankaaZG16
import Derived.Test.YtonpekldcnankaaZG17
import Derived.Test.YtonpekldcnankaaZG24
import Derived.Test.YtonpekldcnankaaZG25
import Derived.Test.YtonpekldcnankaaZG30
import Derived.Test.YtonpekldcnankaaZG31
import Derived.Test.YtonpekldcnankaaZG32
import Derived.Test.YtonpekldcnankaaZG33
import Derived.Test.YtonpekldcnankaaZG34
import Derived.Test.YtonpekldcnankaaZG35
import Derived.Test.YtonpekldcnankaaZG36
import Derived.Test.YtonpekldcnankaaZG38
import Derived.Test.YtonpekldcnankaaZG39
import Derived.Test.YtonpekldcnankaaZG40
import Derived.Test.YtonpekldcnankaaZG41
section
namespace Go.Proofs.Ytonpekldcnankaa.X
open Go.RowKit
def sconcelaw07_RingAdds.PureS:Prop:=∀ (l0_0:List Int) (b0_1:Int) (l0_2:List Int) (l1:List Int) (l2:List Int),l0_0.length≤maxLen→(∀ x ∈ l0_0,(Lit.int .u64 x).wf = true)→(Lit.int .u64 b0_1).wf = true→l0_2.length≤maxLen→(∀ x ∈ l0_2,(Lit.int .u64 x).wf = true)→l1.length≤maxLen→(∀ x ∈ l1,(Lit.int .u64 x).wf = true)→l2.length≤maxLen→(∀ x ∈ l2,(Lit.int .u64 x).wf = true)→∃ k,sconcelaw07_RingAdds.f k l0_0 b0_1 l0_2 l1 l2 = some true
end Go.Proofs.Ytonpekldcnankaa.X
end
section
namespace Go.Proofs.Ytonpekldcnankaa.X
open Go.RowKit Go.Proofs.YtonpekldcnankaaW.PrintWords Go.Proofs.YtonpekldcnankaaW.PrintLast Go.Proofs.Ytonpekldcnankaa.Ma
set_option linter.unusedVariables false
set_option linter.unusedSimpArgs false
theorem sp_SubMod {x y m:Nat} (bx:blen x≤10000) (bm:blen m≤10000) (hy:y < m):Ev (fun k => sconceref03_SubMod.f k (big x) (big y) (big m)) (big (if y≤x then x - y else x + m - y)):=by
  have hadd:=blen_add (n:=10000) bx bm
  unfold sconceref03_SubMod.f
  refine ev_bind (sp_Cmp (by omega)) ?_
  by_cases h:y≤x
  · rw [if_pos h]
    refine ev_pos ?_ (ev_bind (sp_Sub (by omega) h) (ev_const rfl))
    unfold cmpI
    rw [if_neg (by omega)]
    split <;> decide
  · rw [if_neg h]
    refine ev_neg ?_ (ev_bind (sp_Add (by omega) (by omega)) (ev_bind (sp_Sub (by omega) (by omega)) (ev_const rfl)))
    unfold cmpI
    rw [if_pos (by omega)]
    decide
end Go.Proofs.Ytonpekldcnankaa.X
end
section
namespace Go.Proofs.Ytonpekldcnankaa.X
open Go.RowKit Go.Proofs.YtonpekldcnankaaW.PrintWords Go.Proofs.YtonpekldcnankaaW.PrintMore Go.Proofs.YtonpekldcnankaaW.PrintLast Go.Proofs.Ytonpekldcnankaa.Ma
set_option linter.unusedVariables false
set_option linter.unusedSimpArgs false
theorem sp_AddMod {x y m:Nat} (hm:m≠0) (bx:blen x≤10000) (by':blen y≤10000) (bm:blen m≤10000):Ev (fun k => sconceref03_AddMod.f k (big x) (big y) (big m)) (big ((x + y) % m)):=by
  unfold sconceref03_AddMod.f
  refine ev_bind (sp_Add (by omega) (by omega)) (ev_bind0 (a:=big ((x + y) % m)) ?_ (ev_const rfl))
  have hb:blen (x + y)≤10001:=blen_add bx by'
  unfold sconceref03_Mod.f
  rw [sp_ref_DivMod (by omega) (by omega) (by omega)]
  rfl
theorem ref7_loop {m rr:List Int} {K:Int} (hm:Wd m) (lm:m.length≤1000) (ls:List (List Int)) (hls:∀ r ∈ ls,Wd r) (hn:ls.length≤1000000):∀ (d i:Nat),i + d = ls.length →
    Ev (fun k => sconceref07_Members.l0 k ls (ls.length:Int) (i:Int) m K rr) ((ls.drop i).all (memB m)):=by
  intro d
  induction d with
  | zero =>
    intro i hi
    refine Ev.step (fun k => sconceref07_Members.l0.eq_2 ..) (ev_neg (by omega) (ev_const ?_))
    rw [List.drop_eq_nil_of_le (by omega)]
    rfl
  | succ d ih =>
    intro i hi
    have hil:i < ls.length:=by omega
    have e:rd_L2 ls (i:Int) = ls[i]:=by rw [rdLI,List.getD_eq_getElem?_getD,List.getElem?_eq_getElem hil,Option.getD_some]
    have e2:wrap64 ((i:Int) + 1) = ((i + 1:Nat):Int):=by rw [w64 (by omega) (by omega)];omega
    refine Ev.step (fun k => sconceref07_Members.l0.eq_2 ..) (ev_pos (by omega) (ev_pos (by omega) (ev_pos (by omega) ?_)))
    rw [e,e2]
    refine ev_bind (sp_ref6_Member hm lm (hls _ (List.getElem_mem hil))) ?_
    rw [List.drop_eq_getElem_cons hil,List.all_cons]
    by_cases h:memB m ls[i] = true
    · rw [h,Bool.true_and]
      exact ev_pos rfl (ih (i + 1) (by omega))
    · rw [Bool.not_eq_true] at h
      rw [h,Bool.false_and]
      exact ev_neg (by decide) (ev_const rfl)
theorem sp_ref7_Members {m rr:List Int} {K:Int} {R:List Int × Int × List Int × Int} (hm:Wd m) (lm:m.length≤1000) (hR:SetR (nW m) R) (ls:List (List Int)) (hls:∀ r ∈ ls,Wd r) (hn:ls.length≤1000000) :
    Ev (fun k => sconceref07_Members.f k m K rr ls) (chkB R m K rr && ls.all (memB m)):=by
  obtain ⟨S,s1,s2⟩:=sp_ref6_Check (rr:=rr) (K:=K) hm lm
  obtain rfl:=hR.uniq s1
  unfold sconceref07_Members.f
  refine ev_bind s2 ?_
  by_cases h:chkB R m K rr = true
  · rw [h,Bool.true_and]
    exact ev_pos rfl (ref7_loop hm lm ls hls hn ls.length 0 (by omega))
  · rw [Bool.not_eq_true] at h
    rw [h,Bool.false_and]
    exact ev_neg (by decide) (ev_const rfl)
theorem sp_out {m rr:List Int} {K:Int} {R:List Int × Int × List Int × Int} (hm:Wd m) (lm:m.length≤300) (hR:SetR (nW m) R) {ls:List (List Int)} (hls:∀ r ∈ ls,Wd r) (v:List Int) :
    Ev (fun k => Rg.out (mont_Check.f k m K rr) m ls v) (if (chkB R m K rr && ls.all (memB m)) = true then (v,0) else ([],1)):=by
  obtain ⟨S,s1,s2⟩:=sp_mont_Check (rr:=rr) (K:=K) hm (by omega)
  obtain rfl:=hR.uniq s1
  unfold Rg.out
  refine ev_pos (Rg.ok_iff.2 ⟨⟨hm,hls⟩,lm⟩) (ev_bind s2 ?_)
  have e:Rg.mem m ls = ls.all (memB m):=rfl
  rw [e]
  by_cases h:chkB R m K rr = true
  · by_cases h2:ls.all (memB m) = true
    · have hr:(if (chkB R m K rr && ls.all (memB m)) = true then (v,(0:Int)) else ([],1)) = (v,0):=if_pos (by rw [h,h2];rfl)
      rw [hr]
      exact ev_pos ⟨h,h2⟩ (ev_const rfl)
    · have hr:(if (chkB R m K rr && ls.all (memB m)) = true then (v,(0:Int)) else ([],1)) = ([],1):=if_neg (by rw [h,Bool.true_and];exact h2)
      rw [hr]
      exact ev_neg (fun g => h2 g.2) (ev_const rfl)
  · have hr:(if (chkB R m K rr && ls.all (memB m)) = true then (v,(0:Int)) else ([],1)) = ([],1):=if_neg (fun g => h (Bool.and_eq_true_iff.1 g).1)
    rw [hr]
    exact ev_neg (fun g => h g.1) (ev_const rfl)
theorem mem_of_all {m:List Int} {ls:List (List Int)} (h:ls.all (memB m) = true):∀ r ∈ ls,r.length = m.length∧nW r < nW m:=fun r hr => by
  have:=List.all_eq_true.1 h r hr
  unfold memB at this
  simpa using this
section
variable {m rr a b:List Int} {K:Int} {R:List Int × Int × List Int × Int}
theorem sp_ref7_Add (hm:Wd m) (lm:m.length≤300) (hR:SetR (nW m) R) (ha:Wd a) (hb:Wd b) :
    Ev (fun k => sconceref07_Add.f k m K rr a b) (if (chkB R m K rr && [a,b].all (memB m)) = true then (wds m.length ((nW a + nW b) % nW m),0) else ([],1)):=by
  have hM:=sp_ref7_Members (K:=K) (rr:=rr) hm (by omega) hR [a,b] (by simp [ha,hb]) (by simp)
  unfold sconceref07_Add.f
  refine ev_bind hM ?_
  by_cases h:(chkB R m K rr && [a,b].all (memB m)) = true
  · have hI:=isMod_of_chk hR (Bool.and_eq_true_iff.1 h).1
    have hmem:=mem_of_all (Bool.and_eq_true_iff.1 h).2
    have m1:=hmem a (by simp)
    have m2:=hmem b (by simp)
    have h1:=hI.2.2.1
    have bm:=blen_nW hm
    have ba:=blen_nW ha
    have bb:=blen_nW hb
    rw [if_pos h]
    refine ev_pos h (ev_bind (sp_OfW ha (by omega)) (ev_bind (sp_OfW hb (by omega)) (ev_bind (sp_OfW hm (by omega)) (ev_bind (sp_AddMod (by omega) (by omega) (by omega) (by omega)) (ev_bind (sp_Nat (by omega)) (ev_const rfl))))))
  · rw [if_neg h]
    exact ev_neg h (ev_const rfl)
theorem sp_ref7_Sub (hm:Wd m) (lm:m.length≤300) (hR:SetR (nW m) R) (ha:Wd a) (hb:Wd b) :
    Ev (fun k => sconceref07_Sub.f k m K rr a b) (if (chkB R m K rr && [a,b].all (memB m)) = true then (wds m.length ((nW a + nW m - nW b) % nW m),0) else ([],1)):=by
  have hM:=sp_ref7_Members (K:=K) (rr:=rr) hm (by omega) hR [a,b] (by simp [ha,hb]) (by simp)
  unfold sconceref07_Sub.f
  refine ev_bind hM ?_
  by_cases h:(chkB R m K rr && [a,b].all (memB m)) = true
  · have hmem:=mem_of_all (Bool.and_eq_true_iff.1 h).2
    have m1:=hmem a (by simp)
    have m2:=hmem b (by simp)
    have bm:=blen_nW hm
    have ba:=blen_nW ha
    have bb:=blen_nW hb
    rw [if_pos h]
    have e:(nW a + nW m - nW b) % nW m = if nW b≤nW a then nW a - nW b else nW a + nW m - nW b:=by
      by_cases c:nW b≤nW a
      · rw [if_pos c,show nW a + nW m - nW b = (nW a - nW b) + nW m by omega,Nat.add_mod_right,Nat.mod_eq_of_lt (by omega)]
      · rw [if_neg c,Nat.mod_eq_of_lt (by omega)]
    rw [e]
    refine ev_pos h (ev_bind (sp_OfW ha (by omega)) (ev_bind (sp_OfW hb (by omega)) (ev_bind (sp_OfW hm (by omega)) (ev_bind (sp_SubMod (by omega) (by omega) m2.2) (ev_bind (sp_Nat (by omega)) (ev_const rfl))))))
  · rw [if_neg h]
    exact ev_neg h (ev_const rfl)
theorem zeros_W (n:Nat):Wd (List.replicate n (0:Int)):=by rw [← dgs_zero (B:=18446744073709551616)];exact wds_Wd _ _
theorem sp_ref7_Neg (hm:Wd m) (lm:m.length≤300) (hR:SetR (nW m) R) (ha:Wd a) :
    Ev (fun k => sconceref07_Neg.f k m K rr a) (if (chkB R m K rr && [a].all (memB m)) = true then (wds m.length ((nW m - nW a) % nW m),0) else ([],1)):=by
  have hz0:nW (List.replicate m.length (0:Int)) = 0:=num_replicate _
  have h:=sp_ref7_Sub (K:=K) (rr:=rr) hm lm hR (zeros_W m.length) ha
  have e:(chkB R m K rr && [List.replicate m.length 0,a].all (memB m)) = (chkB R m K rr && [a].all (memB m)):=by
    by_cases c:chkB R m K rr = true
    · have h1:=(isMod_of_chk hR c).2.2.1
      have:memB m (List.replicate m.length 0) = true:=by unfold memB;rw [hz0,List.length_replicate];simp;omega
      simp [this]
    · rw [Bool.not_eq_true] at c
      rw [c,Bool.false_and,Bool.false_and]
  rw [e,hz0,Nat.zero_add] at h
  unfold sconceref07_Neg.f
  refine ev_pos (by omega) (ev_pos (by omega) ?_)
  rw [Int.toNat_natCast]
  exact ev_bind h (ev_const rfl)
end
theorem sp_few7 (m:List Int) (K:Int) (rr:List Int) (ls:List (List Int)) (hn:ls.length≤1000000000):Ev (fun k => sconcelaw07_Few.f k m K rr ls) (fewB 40 [m,rr] && fewB 40 ls):=by
  unfold sconcelaw07_Few.f
  refine ev_bind (sp_Few5 _ (by simp)) ?_
  by_cases h:fewB 40 [m,rr] = true
  · rw [h,Bool.true_and]
    exact ev_pos rfl (ev_bind (sp_Few5 _ hn) (ev_const rfl))
  · rw [Bool.not_eq_true] at h
    rw [h,Bool.false_and]
    exact ev_neg (by decide) (ev_const rfl)
theorem sp_as (x:List Int) (e:Int) (y:List Int) (f:Int) (hx:x.length≤1000000000):Ev (fun k => sconcelaw07_as.f k x e y f) (decide (e = f) && decide (x = y)):=by
  unfold sconcelaw07_as.f
  by_cases h:e = f
  · rw [decide_eq_true h,Bool.true_and]
    exact ev_pos h (ev_bind (sp_Same (by omega)) (ev_const rfl))
  · rw [decide_eq_false h,Bool.false_and]
    exact ev_neg h (ev_const rfl)
theorem as_same {x:List Int × Int} (hx:x.1.length≤1000000000):Ev (fun k => sconcelaw07_as.f k x.1 x.2 x.1 x.2) true:=by
  have:=sp_as x.1 x.2 x.1 x.2 hx
  simpa using this
theorem awake7:Ev (fun k => sconcelaw07_awake.f k) true:=Ev.of (fun k => sconcelaw07_awake.mono k) (k:=130) (by kernel_rfl)
end Go.Proofs.Ytonpekldcnankaa.X
end
section
namespace Go.Proofs.Ytonpekldcnankaa.Pure
open Go.RowKit Go.Proofs.Ytonpekldcnankaa.X Go.Proofs.YtonpekldcnankaaW.PrintWords Go.Proofs.YtonpekldcnankaaW.PrintLast Go.Proofs.Ytonpekldcnankaa.Ma
set_option linter.unusedVariables false
set_option linter.unusedSimpArgs false
theorem len_out {c:Prop} [Decidable c] {n x:Nat} (h:n≤40):(if c then (wds n x,(0:Int)) else ([],1)).1.length≤1000000000:=by
  split <;> simp [dgs_length]
  omega
theorem RingAdds:sconcelaw07_RingAdds.PureS:=by
  intro m K rr a b _ hm _ _ _ _ ha _ hb
  rw [wf_Wd] at hm ha hb
  refine Ev.rounds ?_
  unfold sconcelaw07_RingAdds.f
  refine ev_bind awake7 (ev_pos rfl (ev_bind (sp_few7 _ _ _ _ (by simp)) ?_))
  by_cases h:(fewB 40 [m,rr] && fewB 40 [a,b]) = true
  · have h':(m.length≤40∧rr.length≤40)∧a.length≤40∧b.length≤40:=by simpa [fewB] using h
    obtain ⟨R,hR,_⟩:=sp_mont_Check (rr:=rr) (K:=K) hm (by omega)
    have hls:∀ r ∈ [a,b],Wd r:=by simp [ha,hb]
    have hl1:∀ r ∈ [a],Wd r:=by simp [ha]
    refine ev_pos h (ev_bind (sp_out hm (by omega) hR hls _) (ev_bind (sp_ref7_Add hm (by omega) hR ha hb) (ev_bind (sp_out hm (by omega) hR hls _) (ev_bind (sp_ref7_Sub hm (by omega) hR ha hb) (ev_bind (sp_out hm (by omega) hR hl1 _) (ev_bind (sp_ref7_Neg hm (by omega) hR ha) ?_))))))
    exact ev_bind (as_same (len_out h'.1.1)) (ev_pos rfl (ev_bind (as_same (len_out h'.1.1)) (ev_pos rfl (ev_bind (as_same (len_out h'.1.1)) (ev_const rfl)))))
  · exact ev_neg h (ev_const rfl)
end Go.Proofs.Ytonpekldcnankaa.Pure
end
