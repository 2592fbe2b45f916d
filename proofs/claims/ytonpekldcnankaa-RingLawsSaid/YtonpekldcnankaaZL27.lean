/- Texts of the walk and of the plain laws, laid together by a program: Rr, Rf, X15. -/
import Derived.Test.YtonpekldcnankaaZL26
set_option maxHeartbeats 4000000
set_option maxRecDepth 100000
section
namespace Go.Proofs.Ytonpekldcnankaa.X
open Go.RowKit Go.Proofs.YtonpekldcnankaaW.PrintWords Go.Proofs.YtonpekldcnankaaW.PrintLast Go.Proofs.Ytonpekldcnankaa.Ma
set_option linter.unusedVariables false
set_option linter.unusedSimpArgs false
theorem rr_or {a b:Int} (h0:0≤a) (h1:a < 9223372036854775808) (h2:b = 0∨b = 1):Go.bits .or .u64 a (b * 9223372036854775808) = b * 9223372036854775808 + a:=by
  rw [u64_or a _ h0 (by omega) (by omega) (by omega),Nat.or_comm,← u64_or _ a (by omega) (by omega) h0 (by omega),b_or_add 63 (by omega) (by omega) h0 (by omega) (by rcases h2 with rfl | rfl <;> decide) (by omega)]
theorem rr_digit {T j:Nat}:T / 2 / 18446744073709551616 ^ j % 18446744073709551616 = T / 18446744073709551616 ^ (j + 1) % 2 * 9223372036854775808 + T / 18446744073709551616 ^ j % 18446744073709551616 / 2:=by
  rw [Nat.div_div_eq_div_mul,Nat.mul_comm,← Nat.div_div_eq_div_mul,Nat.pow_succ,← Nat.div_div_eq_div_mul]
  generalize T / 18446744073709551616 ^ j = Y
  omega
theorem rr_set {V:List Int} {j:Nat} (h:j < V.length) (v:Int) (hv:v = at0 V j):(List.replicate (j + 1) (0:Int) ++ V.drop (j + 1)).set j v = List.replicate j 0 ++ V.drop j:=by
  rw [List.drop_eq_getElem_cons h,hv,at0_lt h,List.replicate_succ',List.append_assoc,List.set_append_right _ _ (by simp),List.length_replicate,Nat.sub_self]
  rfl
theorem Right_loop {a:List Int} (ha:Wd a) (hn:a.length≤100000) (T:Nat) (hT:T % 18446744073709551616 ^ a.length = nW a):∀ (d i:Nat),i + d = a.length →
    Ev (fun k => limbs_Right.l0 k a ((T / 18446744073709551616 ^ (a.length - i) % 2:Nat):Int) (List.replicate (a.length - i) 0 ++ (wds a.length (T / 2)).drop (a.length - i)) (a.length:Int) (i:Int)) (wds a.length (T / 2),((T % 2:Nat):Int)):=by
  have hV:(wds a.length (T / 2)).length = a.length:=dgs_length _ _ _
  have ha':a = dgs 18446744073709551616 a.length T:=by
    rw [← dgs_mod,hT]
    exact Wd_eq ha
  clear hT
  have ha':=Aside0.mk ha'
  intro d
  induction d with
  | zero =>
    intro i hi
    refine Ev.step (fun k => limbs_Right.l0.eq_2 ..) (ev_neg (by omega) (ev_const ?_))
    rw [show a.length - i = 0 by omega,Nat.pow_zero,Nat.div_one]
    rfl
  | succ d ih =>
    intro i hi
    obtain ⟨j,hj⟩:∃ j:Nat,a.length - i = j + 1:=⟨a.length - i - 1,by omega⟩
    have hjl:j < a.length:=by omega
    have HI:=Aside0.mk ih
    clear ih
    have e1:wrap64 ((wrap64 ((a.length:Int) - 1)) - (i:Int)) = (j:Int):=by rw [w64 (n:=(a.length:Int) - 1) (by omega) (by omega),w64 (by omega) (by omega)];omega
    have e2:wrap64 ((i:Int) + 1) = ((i + 1:Nat):Int):=by rw [w64 (by omega) (by omega)];omega
    have hd:at0 a j = ((T / 18446744073709551616 ^ j % 18446744073709551616:Nat):Int):=by
      have:=at0_dgs (B:=18446744073709551616) T hjl
      rw [← ha'.out] at this
      exact this
    have hl:(List.replicate (j + 1) (0:Int) ++ (wds a.length (T / 2)).drop (j + 1)).length = a.length:=by rw [List.length_append,List.length_replicate,List.length_drop,hV];omega
    have hat:at0 (wds a.length (T / 2)) j = ((T / 2 / 18446744073709551616 ^ j % 18446744073709551616:Nat):Int):=at0_dgs _ hjl
    rw [rr_digit] at hat
    have ih':=HI.out (i + 1) (by omega)
    rw [show a.length - (i + 1) = j by omega] at ih'
    refine Ev.step (fun k => limbs_Right.l0.eq_2 ..) (ev_pos (by omega) ?_)
    rw [hj,e1,e2]
    refine ev_pos (by omega) (ev_pos (by omega) (ev_pos (by rw [hl];omega) ?_))
    rw [Int.toNat_natCast,rdA,hd]
    obtain ⟨y,hy⟩:∃ y,y = T / 18446744073709551616 ^ j:=⟨_,rfl⟩
    obtain ⟨z,hz⟩:∃ z,z = T / 18446744073709551616 ^ (j + 1) % 2:=⟨_,rfl⟩
    have hz2:z < 2:=by rw [hz];exact Nat.mod_lt _ (by decide)
    rw [← hy] at hat ih' ⊢
    rw [← hz] at hat ⊢
    rw [b_and1 (by omega) (by omega),show ((y % 18446744073709551616:Nat):Int) % 2 = ((y % 2:Nat):Int) by omega,wU,show (z:Int) * 9223372036854775808 % 18446744073709551616 = (z:Int) * 9223372036854775808 by omega,rr_or (by omega) (by omega) (by omega),rr_set (by rw [hV];exact hjl) _ (by rw [hat];omega)]
    exact ih'
theorem sp_limbs_Right {a:List Int} (ha:Wd a) (hn:a.length≤100000) (h0:0 < a.length) {c:Int} (hc:wd c = true) :
    Ev (fun k => limbs_Right.f k a c) (wds a.length ((nW a + (c % 2).toNat * 18446744073709551616 ^ a.length) / 2),((nW a % 2:Nat):Int)):=by
  have hcw:=wd_iff.1 hc
  obtain ⟨b,hb⟩:∃ b:Nat,c % 2 = (b:Int):=⟨(c % 2).toNat,by omega⟩
  have hlt:=nW_lt ha
  have h:=Right_loop ha hn (nW a + b * 18446744073709551616 ^ a.length) (by rw [Nat.add_mul_mod_self_right,Nat.mod_eq_of_lt hlt]) a.length 0 (by omega)
  rw [Nat.sub_zero,Nat.add_mul_div_right _ _ (Nat.pow_pos (by decide)),Nat.div_eq_of_lt hlt,Nat.zero_add,List.drop_eq_nil_of_le (by rw [dgs_length];exact Nat.le_refl _),List.append_nil] at h
  unfold limbs_Right.f
  refine ev_bind0 rfl (ev_pos (by omega) (ev_pos (by omega) ?_))
  rw [Int.toNat_natCast,b_and1 (by omega) (by omega),hb,Int.toNat_natCast]
  rw [show ((b % 2:Nat):Int) = (b:Int) by omega] at h
  have he:(nW a + b * 18446744073709551616 ^ a.length) % 2 = nW a % 2:=by
    obtain ⟨m,hm⟩:∃ m,a.length = m + 1:=⟨a.length - 1,by omega⟩
    rw [hm,Nat.pow_succ,← Nat.mul_assoc]
    omega
  rw [he] at h
  exact h
end Go.Proofs.Ytonpekldcnankaa.X
end
section
namespace Go.Proofs.Ytonpekldcnankaa.X
open Go.RowKit Go.Proofs.YtonpekldcnankaaW.PrintWords Go.Proofs.YtonpekldcnankaaW.PrintLast Go.Proofs.YtonpekldcnankaaW.PrintMore Go.Proofs.Ytonpekldcnankaa.Ma
set_option linter.unusedVariables false
set_option linter.unusedSimpArgs false
theorem sp_ring_Halved {m0 la:List Int} (m1:Int) (m2:List Int) (hm:Wd m0) (ha:Wd la) (la':la.length = m0.length) (ma:nW la < nW m0) (hn:m0.length≤300) :
    Ev (fun k => ring_Halved.f k m0 m1 m2 la) (wds m0.length (if nW la % 2 = 0 then nW la / 2 else (nW la + nW m0) / 2)):=by
  have hM:=nW_lt hm
  have h0:0 < m0.length:=by
    rcases Nat.eq_zero_or_pos m0.length with h | h
    · rw [h,Nat.pow_zero] at hM
      omega
    · exact h
  unfold ring_Halved.f
  have hd:rd la 0 = ((nW la % 18446744073709551616:Nat):Int):=by
    have:=rdA la 0
    rw [at0_num (B:=18446744073709551616) (by decide) ha,Nat.pow_zero,Nat.div_one] at this
    exact this
  rw [hd]
  obtain ⟨S,hS⟩:∃ S,S = nW la + (if ((nW la % 18446744073709551616:Nat):Int) % 2 = 1 then nW m0 else 0):=⟨_,rfl⟩
  have hS2:S < 2 * 18446744073709551616 ^ m0.length:=by rw [hS];split <;> omega
  have hv:(if nW la % 2 = 0 then nW la / 2 else (nW la + nW m0) / 2) = S / 2:=by
    rw [hS]
    by_cases c:nW la % 2 = 0
    · rw [if_pos c,if_neg (by omega),Nat.add_zero]
    · rw [if_neg c,if_pos (by omega)]
  have hA:=sp_limbs_AddIf (c:=((nW la % 18446744073709551616:Nat):Int)) (wd_iff.2 ⟨by omega,by omega⟩) ha hm (by omega)
  rw [la',Nat.max_self,← hS] at hA
  refine ev_pos (by omega) (ev_bind0 hA ?_)
  have hp:=Nat.pow_pos (n:=m0.length) (show 0 < 18446744073709551616 by decide)
  have hq:S / 18446744073709551616 ^ m0.length < 2:=(Nat.div_lt_iff_lt_mul hp).2 hS2
  obtain ⟨q,hqd⟩:∃ q,q = S / 18446744073709551616 ^ m0.length:=⟨_,rfl⟩
  rw [← hqd] at hq ⊢
  have hR:=sp_limbs_Right (a:=wds m0.length S) (wds_Wd _ _) (by rw [dgs_length];omega) (by rw [dgs_length];exact h0) (c:=(q:Int)) (wd_iff.2 ⟨by omega,by omega⟩)
  have e1:nW (wds m0.length S) = S % 18446744073709551616 ^ m0.length:=num_dgs _ _
  rw [dgs_length,e1,show ((q:Int) % 2).toNat = q by omega,hqd,Nat.mod_add_div',← hqd] at hR
  rw [hv]
  exact ev_bind hR (ev_const rfl)
theorem ring_Half1_ok (A0:Option Addr) (c0:Nat) (m0:List Int) (m1:Int) (A2:Option Addr) (c2:Nat) (m2:List Int) (Aa:Option Addr) (ca:Nat) (la:List Int) (bt bm ba:Nat) (P:Value→World→Prop) (w:World)
    (ht:w.heap[bt]? = some (.cells #[.pointer none] 71 (0,0))) (hm:w.heap[bm]? = some (.cells #[.slice A0 m0.length c0,.int .u64 m1,.slice A2 m2.length c2] 26 (0,0))) (ha:w.heap[ba]? = some (.cells #[.slice Aa la.length ca] 23 (0,0)))
    (hd:Calls Try.prog 65 #[.pointer none,.agg #[.slice A0 m0.length c0,.int .u64 m1,.slice A2 m2.length c2],.slice Aa la.length ca] w fun e w' => ∃ v,e = .returned v∧P v w') :
    Calls Try.prog 64 #[.pointer (some ⟨bt,0,none⟩),.pointer (some ⟨bm,0,none⟩),.pointer (some ⟨ba,0,none⟩)] w fun e w' => ∃ v,e = .returned v∧P v w':=by
  have hu59:=Try.underlying26
  have HD:=Aside0.mk hd
  have zt:=cell_of_one ht
  have za:=cell_of_one ha
  have z0:=(blk_cell hm 0).trans rfl
  have z1:=(blk_cell hm 1).trans rfl
  have z2:=(blk_cell hm 2).trans rfl
  clear hd ht hm ha
  go_enter Try.func64,Try.ntmps64
  go_wp2_with (go_at_call 65;(with_reducible refine HD.out.mono ?_);rintro e w5 ⟨v,rfl,hp⟩;have HP:=Aside0.mk hp;clear hp)
  go_ret
  exact ⟨_,rfl,HP.out⟩
theorem ring_Half_enter (A0:Option Addr) (c0:Nat) (m0:List Int) (m1:Int) (A2:Option Addr) (c2:Nat) (m2:List Int) (Aa:Option Addr) (ca:Nat) (la:List Int) (r1:List Int) (r2:Int) (w:World)
    (hD:∀ (W:World) (gl:Nat),Below w.heap.size w W→(W.heap[w.heap.size]? = some (.cells #[.pointer none] 71 (0,0))∧W.heap[w.heap.size + 1]? = some (.cells #[.slice A0 m0.length c0,.int .u64 m1,.slice A2 m2.length c2] 26 (0,0))∧W.heap[w.heap.size + 1 + 1]? = some (.cells #[.slice Aa la.length ca] 23 (0,0))) →
      W.heap[gl]? = some (.cells #[.slice Aa la.length ca] 23 (0,0))→Calls Try.prog 63 #[.agg #[.slice A0 m0.length c0,.int .u64 m1,.slice A2 m2.length c2],.func (.func 64) #[] #[.pointer (some ⟨w.heap.size,0,none⟩),.pointer (some ⟨w.heap.size + 1,0,none⟩),.pointer (some ⟨w.heap.size + 1 + 1,0,none⟩)],.slice (some ⟨gl,0,none⟩) 1 1] W fun e w' => ∃ v,e = .returned (.tuple #[v,.int .i64 r2])∧Kd.R (Kd.int .u64) 24 w' w.heap.size (fun _ => True) v r1∧Below w.heap.size w w') :
    Calls Try.prog 18 #[.pointer none,.agg #[.slice A0 m0.length c0,.int .u64 m1,.slice A2 m2.length c2],.slice Aa la.length ca] w fun e w' => ∃ v,e = .returned (.tuple #[v,.int .i64 r2])∧Kd.R (Kd.int .u64) 24 w' w.heap.size (fun _ => True) v r1∧Below w.heap.size w w':=by
  obtain ⟨w0,hw0⟩:∃ w0:World,w0 = ((w.alloc (.cells #[.pointer none] 71)).alloc (.cells #[.slice A0 m0.length c0,.int .u64 m1,.slice A2 m2.length c2] 26)).alloc (.cells #[.slice Aa la.length ca] 23):=⟨_,rfl⟩
  obtain ⟨hb,hB,hsz⟩:=rg_boxes3 w _ _ _ _ _ _ w0 hw0
  have hu59:=Try.underlying26
  have hl:=blk_new w0 (Obj.cells #[.slice Aa la.length ca] 23)
  rw [hsz] at hl
  have hc:=hD (w0.alloc (Obj.cells #[.slice Aa la.length ca] 23)) (w.heap.size + 1 + 1 + 1) (below_alloc hB _) ⟨blk_alloc hb.1 _,blk_alloc hb.2.1 _,blk_alloc hb.2.2 _⟩ hl
  clear hD hb hB hsz hl
  subst hw0
  have HC:=Aside0.mk hc
  clear hc
  go_enter Try.func18,Try.ntmps18
  go_wp2_with (go_at_call 63;(with_reducible refine HC.out.mono ?_);rintro e w5 ⟨v,rfl,hp⟩;have HP:=Aside0.mk hp;clear hp)
  go_ret2
  exact ⟨_,rfl,HP.out⟩
theorem ring_Half_walk (k:Nat) (A0:Option Addr) (c0:Nat) (m0:List Int) (m1:Int) (A2:Option Addr) (c2:Nat) (m2:List Int) (Aa:Option Addr) (ca:Nat) (la:List Int) (r1:List Int) (r2:Int) (w:World) (hr0:Kd.C (Kd.int .u64) w A0 m0.length m0) (hc0:m0.length≤c0) (hr2:Kd.C (Kd.int .u64) w A2 m2.length m2) (hc2:m2.length≤c2) (hra:Kd.C (Kd.int .u64) w Aa la.length la) (hca:la.length≤ca)
    (h:Rg.out (mont_Check.f k m0 m1 m2) m0 [la] (dgs 18446744073709551616 m0.length (if num 18446744073709551616 la % 2 = 0 then num 18446744073709551616 la / 2 else (num 18446744073709551616 la + num 18446744073709551616 m0) / 2)) = some (r1,r2)) :
    Calls Try.prog 18 #[.pointer none,.agg #[.slice A0 m0.length c0,.int .u64 m1,.slice A2 m2.length c2],.slice Aa la.length ca] w fun e w' => ∃ v,e = .returned (.tuple #[v,.int .i64 r2])∧Kd.R (Kd.int .u64) 24 w' w.heap.size (fun _ => True) v r1∧Below w.heap.size w w':=by
  unfold Rg.out at h
  split at h
  · rename_i hok0
    have hok:=Rg.ok_iff.1 hok0
    have hWa:Wd la:=hok.1.2 _ (by simp)
    cases e:mont_Check.f k m0 m1 m2 with
    | none => rw [e] at h;exact absurd h (by simp)
    | some chk =>
      rw [e] at h
      simp only [Option.bind_some] at h
      refine ring_Half_enter A0 c0 m0 m1 A2 c2 m2 Aa ca la r1 r2 w fun W gl hW hb hl => ?_
      have hC:=rg_C1 hl (Kd.C_below hra hW) hca
      split at h
      · rename_i hy
        simp only [Option.some.injEq,Prod.mk.injEq] at h
        obtain ⟨rfl,rfl⟩:=h
        obtain ⟨rfl,hmem⟩:=hy
        have hmm:=Rg.mem_iff.1 hmem
        refine (ring_done_yes k A0 c0 m0 m1 A2 c2 m2 64 _ _ _ [la] (fun w1 v w' => Kd.R (Kd.int .u64) 24 w' w1.heap.size (fun _ => True) v (dgs 18446744073709551616 m0.length (if num 18446744073709551616 la % 2 = 0 then num 18446744073709551616 la / 2 else (num 18446744073709551616 la + num 18446744073709551616 m0) / 2))∧Below w1.heap.size w1 w') W (Kd.C_below hr0 hW) hc0 (Kd.C_below hr2 hW) hc2 hC (by simp) e (Rg.at_mem hok0 hmem) (fun _ => rfl) (fun w1 hw1 => ?_)).mono ?_
        · have hW1:=below_then hW hW.size hw1
          refine ring_Half1_ok A0 c0 m0 m1 A2 c2 m2 Aa ca la _ _ _ _ w1 (blk_below hb.1 hw1) (blk_below hb.2.1 hw1) (blk_below hb.2.2 hw1)  ?_
          obtain ⟨kv,hval⟩:=sp_ring_Halved m1 m2 hok.1.1 hWa (hmm _ (by simp)).1 (hmm _ (by simp)).2 hok.2
          have hval:=hval kv (Nat.le_refl _)
          exact ring_Halved.calls kv A0 c0 m0 m1 A2 c2 m2 Aa ca la _ w1 (Kd.C_below hr0 hW1) hc0 (Kd.C_below hr2 hW1) hc2 (Kd.C_below hra hW1) hca hval
        · rintro e w' ⟨w1,v,g1,rfl,g2,g3⟩
          have hW1:=below_then hW hW.size g1
          exact ⟨v,rfl,Kd.R_lower g2 hW1.size,below_then hW1 hW1.size g3⟩
      · rename_i hy
        simp only [Option.some.injEq,Prod.mk.injEq] at h
        obtain ⟨rfl,rfl⟩:=h
        refine (ring_done_no k A0 c0 m0 m1 A2 c2 m2 _ _ _ [la] chk W (Kd.C_below hr0 hW) hc0 (Kd.C_below hr2 hW) hc2 hC (by simp) e (Rg.at_any hok0) (fun hc => Rg.at_no hok0 (fun hm => hy ⟨hc,hm⟩))).mono ?_
        rintro e w' ⟨rfl,g⟩
        exact ⟨_,rfl,Kd.R_nil _ _ _ _ _,below_then hW hW.size g⟩
  · exact absurd h (by simp)
end Go.Proofs.Ytonpekldcnankaa.X
end
section
namespace Go.Proofs.Ytonpekldcnankaa.X
open Go.RowKit Go.Proofs.YtonpekldcnankaaW.PrintWords Go.Proofs.YtonpekldcnankaaW.PrintLast Go.Proofs.YtonpekldcnankaaW.PrintMore
attribute [local go_sem] max2_int min2_int max_two min_two max_three min_three max_four min_four
set_option linter.unusedVariables false
set_option linter.unusedSimpArgs false
def ring_Half.f (k:Nat) (m0:List Int) (m1:Int) (m2:List Int) (a:List Int):Option (List Int × Int) :=
 Rg.out (mont_Check.f k m0 m1 m2) m0 [a] (Ma.dgs 18446744073709551616 m0.length (if Ma.num 18446744073709551616 a % 2 = 0 then Ma.num 18446744073709551616 a / 2 else (Ma.num 18446744073709551616 a + Ma.num 18446744073709551616 m0) / 2))
theorem ring_Half.mono:∀ a0 a1 a2 a3 k,LeO (ring_Half.f k a0 a1 a2 a3) (ring_Half.f (k + 1) a0 a1 a2 a3):=fun _ _ _ _ _ => Rg.gate (mont_Check.mono _ _ _ _)
theorem ring_Half.calls (k:Nat) (A1_0:Option Addr) (c1_0:Nat) (l1_0:List Int) (a1_1:Int) (A1_2:Option Addr) (c1_2:Nat) (l1_2:List Int) (A2:Option Addr) (c2:Nat) (l2:List Int) (r1:List Int) (r2:Int) (w:World) (hr1_0:Kd.C (Kd.int .u64) w A1_0 l1_0.length l1_0) (hc1_0:l1_0.length≤c1_0) (hr1_2:Kd.C (Kd.int .u64) w A1_2 l1_2.length l1_2) (hc1_2:l1_2.length≤c1_2) (hr2:Kd.C (Kd.int .u64) w A2 l2.length l2) (hc2:l2.length≤c2) (h:ring_Half.f k l1_0 a1_1 l1_2 l2 = some (r1,r2)) :
  Calls Try.prog 18 #[.pointer none,.agg #[.slice A1_0 l1_0.length c1_0,.int .u64 a1_1,.slice A1_2 l1_2.length c1_2],.slice A2 l2.length c2] w fun e w' => ∃ v0_:Value,e = .returned (.tuple #[v0_,.int .i64 r2])∧Kd.R (Kd.int .u64) 24 w' w.heap.size (fun _ => True) v0_ r1∧Below w.heap.size w w' :=
 ring_Half_walk k A1_0 c1_0 l1_0 a1_1 A1_2 c1_2 l1_2 A2 c2 l2 r1 r2 w hr1_0 hc1_0 hr1_2 hc1_2 hr2 hc2 h
end Go.Proofs.Ytonpekldcnankaa.X
end
