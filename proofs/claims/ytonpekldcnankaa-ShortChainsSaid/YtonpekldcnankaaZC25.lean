/- Texts of the walk and of the plain laws, laid together by a program: Tk, Lq. -/
import Derived.Test.YtonpekldcnankaaZC23
set_option maxHeartbeats 2000000
set_option maxRecDepth 100000
section
namespace Go.Proofs.Ytonpekldcnankaa.X
open Go.RowKit Go.Proofs.YtonpekldcnankaaW.PrintWords Go.Proofs.YtonpekldcnankaaW.PrintLast Go.Proofs.YtonpekldcnankaaW.PrintMore Go.Proofs.Ytonpekldcnankaa.Ma
attribute [local go_sem] max2_int min2_int max_two min_two max_three min_three max_four min_four
set_option linter.unusedVariables false
set_option linter.unusedSimpArgs false
def splW (xs:List Int) (j i D:Nat):List Int:=xs.take j ++ (wds i D ++ xs.drop (j + i))
theorem R_row {W:World} {base g L cap:Nat} {ok:Nat→Prop} {xs:List Int} (h:Kd.R (Kd.int .u64) 24 W base ok (.slice (some ⟨g,0,none⟩) L cap) xs) :
    ∃ cur:Array Value,W.heap[g]? = some (.cells cur 24 (0,0))∧L≤cap∧L = xs.length∧base≤g∧cap≤maxLen∧cur.size = cap∧cur.toList.take L = encs (Value.int .u64) xs:=by
  have hL:=(Kd.R_reads' h).1
  subst hL
  have ho:=Kd.own_of_R h
  obtain ⟨h1,h2⟩:=ho
  rcases h2 with ⟨he,_⟩ | ⟨g',cap',cur,he,hb,hh,hnc,hcm,hcs,ht⟩
  · cases he
  · injection he with e1 _ e3
    have e4:g = g':=by
      have:=Option.some.inj e1
      exact (Addr.mk.inj this).1
    subst e4
    subst e3
    exact ⟨cur,hh,hnc,rfl,hb,hcm,by rw [Nat.mul_one] at hcs;exact hcs,by rw [Nat.mul_one] at ht;exact ht⟩
theorem R_setRow {W:World} {base g L cap:Nat} {ok:Nat→Prop} {xs zs:List Int} {cur:Array Value} {j:Nat} (h:Kd.R (Kd.int .u64) 24 W base ok (.slice (some ⟨g,0,none⟩) L cap) xs)
    (hc:W.heap[g]? = some (.cells cur 24 (0,0))) (hs:cur.size = cap) (ht:cur.toList.take L = encs (Value.int .u64) xs) (hj:j + zs.length≤L) :
    Kd.R (Kd.int .u64) 24 (W.setRow g (cur.toList.take j ++ (encs (Value.int .u64) zs ++ cur.toList.drop (j + (encs (Value.int .u64) zs).length))).toArray) base ok (.slice (some ⟨g,0,none⟩) L cap) (xs.take j ++ (zs ++ xs.drop (j + zs.length))) ∧
      W.grownBy (W.setRow g (cur.toList.take j ++ (encs (Value.int .u64) zs ++ cur.toList.drop (j + (encs (Value.int .u64) zs).length))).toArray) (some g):=by
  obtain ⟨cur',hc',hLc,hLx,hb,hm,_,_⟩:=R_row h
  have hez:(encs (Value.int .u64) zs).length = zs.length:=by simp [encs]
  have hcl:cur.toList.length = cap:=by rw [Array.length_toList,hs]
  rw [hez]
  have hxs:xs.length = L:=hLx.symm
  have hl:(xs.take j ++ (zs ++ xs.drop (j + zs.length))).length = L:=by
    rw [List.length_append,List.length_append,List.length_take,List.length_drop];omega
  have hcur:cur.toList = encs (Value.int .u64) xs ++ cur.toList.drop L:=by rw [← ht,List.take_append_drop]
  have hel:(encs (Value.int .u64) xs).length = L:=by simp [encs,hxs]
  refine ⟨?_,⟨rfl,rfl,rfl,by simp [World.setRow],fun k hk hne => setRow_other W g k _ (fun e => hne (by rw [e]))⟩⟩
  have ho:(W.setRow g (cur.toList.take j ++ (encs (Value.int .u64) zs ++ cur.toList.drop (j + zs.length))).toArray).ownsRow base 24 1 (.slice (some ⟨g,0,none⟩) (xs.take j ++ (zs ++ xs.drop (j + zs.length))).length cap) (xs.take j ++ (zs ++ xs.drop (j + zs.length))).length (encs (Value.int .u64) (xs.take j ++ (zs ++ xs.drop (j + zs.length)))):=by
    refine ⟨by simp [encs],.inr ⟨g,cap,_,rfl,hb,setRow_heap W g cur _ _ _ hc,by rw [hl];exact hLc,hm,?_,?_⟩⟩
    · simp [encs,hs]
      omega
    · rw [hl,Nat.mul_one,List.toList_toArray]
      have e1:cur.toList.take j = encs (Value.int .u64) (xs.take j):=by
        rw [hcur,List.take_append_of_le_length (by rw [hel];omega)]
        simp [encs]
      have e2:cur.toList.drop (j + zs.length) = encs (Value.int .u64) (xs.drop (j + zs.length)) ++ cur.toList.drop L:=by
        rw [hcur,List.drop_append_of_le_length (by rw [hel];omega),← hcur]
        simp [encs]
      rw [e1,e2,← List.append_assoc,← List.append_assoc,List.take_left']
      · simp [encs]
      · simp [encs]
        omega
  have h2:=Kd.R_of_own (h1:=fun _ => rfl) (ok:=ok) ho (fun k hk => h.1 k hk)
  rw [hl] at h2
  exact h2
theorem mulword_nil (AV:Option Addr) (cv:Nat) (lv:List Int) (q:Nat) (W:World) (hv:Kd.C (Kd.int .u64) W AV lv.length lv) (hcv:lv.length≤cv) (h1:Wd lv) (hq:q < 18446744073709551616) (hl:lv.length≤300) :
    Calls Try.prog 184 #[.pointer none,.slice AV lv.length cv,.int .u64 (q:Int),.slice none 0 0] W fun e w' => ∃ A c,e = .returned (.tuple #[.slice A lv.length c,.int .u64 ((nW lv * q / 18446744073709551616 ^ lv.length:Nat):Int)]) ∧
      Kd.R (Kd.int .u64) 24 w' W.heap.size (fun _ => True) (.slice A lv.length c) (wds lv.length (nW lv * q))∧Below W.heap.size W w':=by
  have h:=product_MulWord_ok AV cv lv q none 0 [] W hv hcv (Kd.C_of_reads (h1:=fun _ => rfl) (d:=(0:Int)) (ReadsOf.nil _ _ _)) (by simp) h1 dg_nil hq hl (by simp)
  rw [show max lv.length ([]:List Int).length = lv.length by simp,show nW ([]:List Int) = 0 from rfl,Nat.add_zero] at h
  refine Calls.mono h ?_
  rintro e w' ⟨v,rfl,h2,h3⟩
  obtain ⟨A,c,e9⟩:=Kd.R_slice h2
  rw [show (wds lv.length (nW lv * q)).length = lv.length from dgs_length _ _ _] at e9
  subst e9
  exact ⟨A,c,rfl,h2,h3⟩
theorem taken_no (g L cap j c base:Nat) (ok:Nat→Prop) (xs:List Int) (AV:Option Addr) (cv:Nat) (lv:List Int) (q:Nat) (w:World)
    (hR:Kd.R (Kd.int .u64) 24 w base ok (.slice (some ⟨g,0,none⟩) L cap) xs) (hjn:j + (lv.length + 1)≤L) (hcu:lv.length + 1≤c) (hv:Kd.C (Kd.int .u64) w AV lv.length lv) (hcv:lv.length≤cv)
    (hd:Wd xs) (hdv:Wd lv) (hn:lv.length≤300) (hq:q < 18446744073709551616) (h:nW ((xs.drop j).take (lv.length + 1)) < nW lv * q) :
    Calls Try.prog 181 #[.slice (some ⟨g,j,none⟩) (lv.length + 1) c,.slice AV lv.length cv,.int .u64 (q:Int)] w fun e w' => e = .returned (.bool false)∧Below w.heap.size w w':=by
  have hL:L = xs.length:=(Kd.R_reads' hR).1
  obtain ⟨lu,hlu⟩:∃ lu,(xs.drop j).take (lv.length + 1) = lu:=⟨_,rfl⟩
  have hll:lu.length = lv.length + 1:=by rw [← hlu,List.length_take,List.length_drop];omega
  have hdu:Wd lu:=fun x hx => hd x (List.mem_of_mem_drop (List.mem_of_mem_take (hlu ▸ hx)))
  have hC:=C_piece hR j (lv.length + 1) hjn (by omega)
  rw [hlu,← hll] at hC
  rw [hlu] at h
  have HM:=fun W hb => mulword_nil AV cv lv q W (Kd.C_below hv hb) hcv hdv hq hn
  have htl:nW lv * q / 18446744073709551616 ^ lv.length < 18446744073709551616:=by
    rw [Nat.div_lt_iff_lt_mul (Nat.pow_pos (by decide)),Nat.mul_comm 18446744073709551616]
    exact Nat.mul_lt_mul'' (nW_lt hdv) hq
  have hap:wds lv.length (nW lv * q) ++ [((nW lv * q / 18446744073709551616 ^ lv.length:Nat):Int)] = wds (lv.length + 1) (nW lv * q):=by
    show _ = dgs _ _ _
    rw [dgs_snoc,Nat.mod_eq_of_lt htl]
  have hS:=sp_limbs_Sub (a:=lu) (b:=wds (lv.length + 1) (nW lv * q)) hdu (wds_Wd _ _) (by rw [dgs_length,hll,Nat.max_self];omega)
  have hnp:nW (wds (lv.length + 1) (nW lv * q)) = nW lv * q:=nW_wds (by rw [Nat.pow_succ];exact Nat.mul_lt_mul'' (nW_lt hdv) hq)
  rw [dgs_length,hll,Nat.max_self,hnp,if_pos h] at hS
  obtain ⟨tp,htp⟩:∃ z:Int,z = ((nW lv * q / 18446744073709551616 ^ lv.length:Nat):Int):=⟨_,rfl⟩
  rw [← htp] at HM hap
  obtain ⟨lp,hlp⟩:∃ l:List Int,l = wds (lv.length + 1) (nW lv * q):=⟨_,rfl⟩
  rw [← hlp] at hS hap
  obtain ⟨lq,hlq⟩:∃ l:List Int,l = wds lv.length (nW lv * q):=⟨_,rfl⟩
  rw [← hlq] at HM hap
  have hlql:lq.length = lv.length:=by rw [hlq,dgs_length]
  have hlpl:lp.length = lv.length + 1:=by rw [hlp,dgs_length]
  obtain ⟨ld,hld⟩:∃ l:List Int,l = wds (lv.length + 1) (nW lu + 18446744073709551616 ^ (lv.length + 1) - nW lv * q):=⟨_,rfl⟩
  rw [← hld] at hS
  have hldl:ld.length = lv.length + 1:=by rw [hld,dgs_length]
  have HS:=Aside0.mk hS
  have HMM:=Aside0.mk HM
  have HAP:=Aside0.mk hap
  have HC:=Aside0.mk hC
  have HR:=Aside0.mk hR
  have HLL:=Aside0.mk (show lu.length = lv.length + 1∧lq.length = lv.length∧lp.length = lv.length + 1∧ld.length = lv.length + 1 from ⟨hll,hlql,hlpl,hldl⟩)
  have HLU:=Aside0.mk (And.intro hlu hld)
  have hln:=hn
  clear hlu hdu hC hR hv HM htl hap hS hnp htp hlp hlq hld hll hlql hlpl hldl h hd hdv
  go_enter Try.func181,Try.ntmps181
  go_wp2_with (first
    | (go_at_call 184;(with_reducible refine (HMM.out _ (Below.refl _ _)).mono ?_);rintro e w1 ⟨A1,c1,rfl,h5,h6⟩;have HO1:=Aside0.mk h5;have HB1:=Aside0.mk h6;clear h5 h6)
    | ((with_reducible refine gate_dst (N:=21) rfl ?_);refine Kd.R_lit (Kd.int .u64) _ 24 ?hg (N:=21) ?hd (xs:=([tp]:List Int)) (inner:=[.int .u64 tp]) (ok:=fun _ => True) (okp:=fun _ => True) ?hr ?hp (fun _ hk => hk) trivial (Below.refl _ _) (Nat.le_refl _) (by simp) ?_;(case hd => rfl);(case hg => rfl);(case hr => first | (go_simp;done) | (go_simp;rfl));(case hp => exact (Reps.one (show Kd.M (Kd.int .u64) _ _ _ tp [.int .u64 tp] from rfl) (Reps.none _ _)));intro v2 w2 ho2 hb2 hg2 hn2;clear hg2 hn2;have HO2:=Aside0.mk ho2;have HB2:=Aside0.mk hb2;clear ho2 hb2;obtain ⟨A2,c2,e9⟩:=Kd.R_slice HO2.out;subst e9)
    | ((with_reducible refine gate_builtin (b:=.append) (xs:=#[.tmp 19,.tmp 21]) rfl ?_);at_builtin;refine Kd.R_append_rows (Kd.int .u64) (w0:=w) w.heap.size rfl (.tmp 19) (.tmp 21) 23 24 (.int .u64 0) 8 rfl Try.underlying23 info_u64 rfl (by decide) (by omega) (.slice A1 lv.length c1) lq [tp] A2 1 c2 (fun _ => True) (fun _ => False) rfl rfl ?aO ?aR (fun _ _ h => h) (fun _ h => h.elim) (fun _ _ => trivial) ?aB ?aS ?aL ?_;(case aO => exact Kd.R_below HO1.out HB2.out);(case aR => exact (Kd.R_reads' HO2.out).2.2);(case aB => exact below_then HB1.out HB1.out.size HB2.out);(case aS => exact (below_then HB1.out HB1.out.size HB2.out).size);(case aL => rw [HLL.out.2.1];omega);intro v3 w3 ho3 hb3 hg3 hat3;rw [HAP.out] at ho3;have HO3:=Aside0.mk ho3;have HB3:=Aside0.mk hb3;clear ho3 hb3 hg3 hat3;obtain ⟨A3,c3,e9⟩:=Kd.R_slice HO3.out;subst e9)
    | (go_at_call 107;(with_reducible refine (show Calls Try.prog 107 #[.pointer none,.slice (some ⟨g,j,none⟩) (lv.length + 1) c,.slice A3 lp.length c3] w3 _ from by have hh:=limbs_Sub.calls (some ⟨g,j,none⟩) c lu A3 c3 lp _ _ w3 (Kd.C_below HC.out HB3.out) (by rw [HLL.out.1];exact hcu) (Kd.R_reads' HO3.out).2.2 (Kd.R_reads' HO3.out).2.1 HS.out;rw [HLL.out.1] at hh;exact hh).mono ?_);rintro e w4 ⟨v4,rfl,ho4,hb4⟩;have HB4:=Aside0.mk (below_then HB3.out HB3.out.size hb4);obtain ⟨A4,c4,e9⟩:=Kd.R_slice ho4;subst e9;have HO4:=Aside0.mk ho4;clear ho4 hb4))
  go_ret
  exact ⟨rfl,HB4.out⟩
theorem taken_yes (g L cap j c base:Nat) (ok:Nat→Prop) (xs:List Int) (AV:Option Addr) (cv:Nat) (lv:List Int) (q:Nat) (w:World)
    (hR:Kd.R (Kd.int .u64) 24 w base ok (.slice (some ⟨g,0,none⟩) L cap) xs) (hjn:j + (lv.length + 1)≤L) (hcu:lv.length + 1≤c) (hv:Kd.C (Kd.int .u64) w AV lv.length lv) (hcv:lv.length≤cv)
    (hd:Wd xs) (hdv:Wd lv) (hn:lv.length≤300) (hq:q < 18446744073709551616) (h:nW lv * q≤nW ((xs.drop j).take (lv.length + 1))) :
    Calls Try.prog 181 #[.slice (some ⟨g,j,none⟩) (lv.length + 1) c,.slice AV lv.length cv,.int .u64 (q:Int)] w fun e w' => e = .returned (.bool true)∧Kd.R (Kd.int .u64) 24 w' base ok (.slice (some ⟨g,0,none⟩) L cap) (splW xs j (lv.length + 1) (nW ((xs.drop j).take (lv.length + 1)) - nW lv * q))∧w.grownBy w' (some g):=by
  have hL:L = xs.length:=(Kd.R_reads' hR).1
  obtain ⟨lu,hlu⟩:∃ lu,(xs.drop j).take (lv.length + 1) = lu:=⟨_,rfl⟩
  have hll:lu.length = lv.length + 1:=by rw [← hlu,List.length_take,List.length_drop];omega
  have hdu:Wd lu:=fun x hx => hd x (List.mem_of_mem_drop (List.mem_of_mem_take (hlu ▸ hx)))
  have hC:=C_piece hR j (lv.length + 1) hjn (by omega)
  rw [hlu,← hll] at hC
  rw [hlu] at h
  have HM:=fun W hb => mulword_nil AV cv lv q W (Kd.C_below hv hb) hcv hdv hq hn
  have htl:nW lv * q / 18446744073709551616 ^ lv.length < 18446744073709551616:=by
    rw [Nat.div_lt_iff_lt_mul (Nat.pow_pos (by decide)),Nat.mul_comm 18446744073709551616]
    exact Nat.mul_lt_mul'' (nW_lt hdv) hq
  have hap:wds lv.length (nW lv * q) ++ [((nW lv * q / 18446744073709551616 ^ lv.length:Nat):Int)] = wds (lv.length + 1) (nW lv * q):=by
    show _ = dgs _ _ _
    rw [dgs_snoc,Nat.mod_eq_of_lt htl]
  have hS:=sp_limbs_Sub (a:=lu) (b:=wds (lv.length + 1) (nW lv * q)) hdu (wds_Wd _ _) (by rw [dgs_length,hll,Nat.max_self];omega)
  have hnp:nW (wds (lv.length + 1) (nW lv * q)) = nW lv * q:=nW_wds (by rw [Nat.pow_succ];exact Nat.mul_lt_mul'' (nW_lt hdv) hq)
  rw [dgs_length,hll,Nat.max_self,hnp,if_neg (by omega)] at hS
  obtain ⟨tp,htp⟩:∃ z:Int,z = ((nW lv * q / 18446744073709551616 ^ lv.length:Nat):Int):=⟨_,rfl⟩
  rw [← htp] at HM hap
  obtain ⟨lp,hlp⟩:∃ l:List Int,l = wds (lv.length + 1) (nW lv * q):=⟨_,rfl⟩
  rw [← hlp] at hS hap
  obtain ⟨lq,hlq⟩:∃ l:List Int,l = wds lv.length (nW lv * q):=⟨_,rfl⟩
  rw [← hlq] at HM hap
  have hlql:lq.length = lv.length:=by rw [hlq,dgs_length]
  have hlpl:lp.length = lv.length + 1:=by rw [hlp,dgs_length]
  obtain ⟨ld,hld⟩:∃ l:List Int,l = wds (lv.length + 1) (nW lu - nW lv * q):=⟨_,rfl⟩
  rw [← hld] at hS
  have hldl:ld.length = lv.length + 1:=by rw [hld,dgs_length]
  have HS:=Aside0.mk hS
  have HMM:=Aside0.mk HM
  have HAP:=Aside0.mk hap
  have HC:=Aside0.mk hC
  have HR:=Aside0.mk hR
  have HLL:=Aside0.mk (show lu.length = lv.length + 1∧lq.length = lv.length∧lp.length = lv.length + 1∧ld.length = lv.length + 1 from ⟨hll,hlql,hlpl,hldl⟩)
  have HLU:=Aside0.mk (And.intro hlu hld)
  have hln:=hn
  clear hlu hdu hC hR hv HM htl hap hS hnp htp hlp hlq hld hll hlql hlpl hldl h hd hdv
  go_enter Try.func181,Try.ntmps181
  go_wp2_with (first
    | (go_at_call 184;(with_reducible refine (HMM.out _ (Below.refl _ _)).mono ?_);rintro e w1 ⟨A1,c1,rfl,h5,h6⟩;have HO1:=Aside0.mk h5;have HB1:=Aside0.mk h6;clear h5 h6)
    | ((with_reducible refine gate_dst (N:=21) rfl ?_);refine Kd.R_lit (Kd.int .u64) _ 24 ?hg (N:=21) ?hd (xs:=([tp]:List Int)) (inner:=[.int .u64 tp]) (ok:=fun _ => True) (okp:=fun _ => True) ?hr ?hp (fun _ hk => hk) trivial (Below.refl _ _) (Nat.le_refl _) (by simp) ?_;(case hd => rfl);(case hg => rfl);(case hr => first | (go_simp;done) | (go_simp;rfl));(case hp => exact (Reps.one (show Kd.M (Kd.int .u64) _ _ _ tp [.int .u64 tp] from rfl) (Reps.none _ _)));intro v2 w2 ho2 hb2 hg2 hn2;clear hg2 hn2;have HO2:=Aside0.mk ho2;have HB2:=Aside0.mk hb2;clear ho2 hb2;obtain ⟨A2,c2,e9⟩:=Kd.R_slice HO2.out;subst e9)
    | ((with_reducible refine gate_builtin (b:=.append) (xs:=#[.tmp 19,.tmp 21]) rfl ?_);at_builtin;refine Kd.R_append_rows (Kd.int .u64) (w0:=w) w.heap.size rfl (.tmp 19) (.tmp 21) 23 24 (.int .u64 0) 8 rfl Try.underlying23 info_u64 rfl (by decide) (by omega) (.slice A1 lv.length c1) lq [tp] A2 1 c2 (fun _ => True) (fun _ => False) rfl rfl ?aO ?aR (fun _ _ h => h) (fun _ h => h.elim) (fun _ _ => trivial) ?aB ?aS ?aL ?_;(case aO => exact Kd.R_below HO1.out HB2.out);(case aR => exact (Kd.R_reads' HO2.out).2.2);(case aB => exact below_then HB1.out HB1.out.size HB2.out);(case aS => exact (below_then HB1.out HB1.out.size HB2.out).size);(case aL => rw [HLL.out.2.1];omega);intro v3 w3 ho3 hb3 hg3 hat3;rw [HAP.out] at ho3;have HO3:=Aside0.mk ho3;have HB3:=Aside0.mk hb3;clear ho3 hb3 hg3 hat3;obtain ⟨A3,c3,e9⟩:=Kd.R_slice HO3.out;subst e9)
    | (go_at_call 107;(with_reducible refine (show Calls Try.prog 107 #[.pointer none,.slice (some ⟨g,j,none⟩) (lv.length + 1) c,.slice A3 lp.length c3] w3 _ from by have hh:=limbs_Sub.calls (some ⟨g,j,none⟩) c lu A3 c3 lp _ _ w3 (Kd.C_below HC.out HB3.out) (by rw [HLL.out.1];exact hcu) (Kd.R_reads' HO3.out).2.2 (Kd.R_reads' HO3.out).2.1 HS.out;rw [HLL.out.1] at hh;exact hh).mono ?_);rintro e w4 ⟨v4,rfl,ho4,hb4⟩;have HB4:=Aside0.mk (below_then HB3.out HB3.out.size hb4);obtain ⟨A4,c4,e9⟩:=Kd.R_slice ho4;subst e9;have HO4:=Aside0.mk ho4;clear ho4 hb4)
    | ((with_reducible refine gate_builtin (b:=.copy) (xs:=#[.tmp 28,.tmp 29]) rfl ?_);obtain ⟨cur,hc5,hLc5,hLx5,hb5,hm5,hs5,ht5⟩:=R_row (Kd.R_below HR.out HB4.out);obtain ⟨ad4,hA4,hcs4⟩:=C_cells (Kd.R_reads' HO4.out).2.2 (by rw [HLL.out.2.2.2];omega);subst hA4;obtain ⟨hR7,hG7⟩:=R_setRow (zs:=ld) (j:=j) (Kd.R_below HR.out HB4.out) hc5 hs5 ht5 (by rw [HLL.out.2.2.2];omega);refine wpList_copy_own rfl (.tmp 28) (.tmp 29) 23 23 rfl 24 Try.underlying23 (by kernel_rfl) g j (lv.length + 1) c ad4 ld.length c4 rfl rfl cur 24 hc5 (encs (Value.int .u64) ld) (by rw [show Nat.min ld.length (lv.length + 1) = ld.length from Nat.min_eq_left (by rw [HLL.out.2.2.2];exact Nat.le_refl _)];simp [encs]) hcs4 (by rw [hs5];simp [encs];have:=HLL.out.2.2.2;omega) (fun v hv => by simp [encs] at hv;obtain ⟨z,_,rfl⟩:=hv;rfl) ?_;obtain ⟨w7,hw7⟩:∃ w7:World,w7 = w4.setRow g (cur.toList.take j ++ (encs (Value.int .u64) ld ++ cur.toList.drop (j + (encs (Value.int .u64) ld).length))).toArray:=⟨_,rfl⟩;rw [← hw7] at hR7 hG7 ⊢;have HR7:=Aside0.mk hR7;have HG7:=Aside0.mk (grown_then (grown_of_below HB4.out (some g)) hG7);clear hw7 hR7 hG7 hc5 hLc5 hLx5 hb5 hm5 hs5 ht5 hcs4))
  go_ret
  refine ⟨rfl,?_,HG7.out⟩
  rw [HLU.out.1]
  unfold splW
  rw [← HLU.out.2]
  have:=HR7.out
  rw [HLL.out.2.2.2] at this
  exact this
end Go.Proofs.Ytonpekldcnankaa.X
end
section
namespace Go.Proofs.Ytonpekldcnankaa.X
open Go.RowKit Go.Proofs.YtonpekldcnankaaW.PrintWords Go.Proofs.YtonpekldcnankaaW.PrintLast Go.Proofs.YtonpekldcnankaaW.PrintMore Go.Proofs.Ytonpekldcnankaa.Ma
set_option linter.unusedVariables false
set_option linter.unusedSimpArgs false
def lqP (X V k:Nat):Nat:=X / 18446744073709551616 ^ (k + 1) % V * 18446744073709551616 + X / 18446744073709551616 ^ k % 18446744073709551616
def lqU (X V k:Nat):Nat:=X / 18446744073709551616 ^ k % V * 18446744073709551616 ^ k + X % 18446744073709551616 ^ k
def lqQ (X V k:Nat):Nat:=X / 18446744073709551616 ^ k / V * 18446744073709551616 ^ k
theorem lq_word (X k:Nat):X / 18446744073709551616 ^ k = 18446744073709551616 * (X / 18446744073709551616 ^ (k + 1)) + X / 18446744073709551616 ^ k % 18446744073709551616:=by
  rw [Nat.pow_succ,← Nat.div_div_eq_div_mul]
  exact (Nat.div_add_mod _ _).symm
theorem lq_lt {X V:Nat} (k:Nat) (hV:0 < V):lqP X V k < V * 18446744073709551616:=by
  unfold lqP
  have h1:X / 18446744073709551616 ^ (k + 1) % V < V:=Nat.mod_lt _ hV
  have h2:X / 18446744073709551616 ^ k % 18446744073709551616 < 18446744073709551616:=Nat.mod_lt _ (by decide)
  have h3:(X / 18446744073709551616 ^ (k + 1) % V + 1) * 18446744073709551616≤V * 18446744073709551616:=Nat.mul_le_mul_right _ h1
  omega
theorem lq_split {X V:Nat} (k:Nat) (hV:0 < V):X / 18446744073709551616 ^ k = V * (18446744073709551616 * (X / 18446744073709551616 ^ (k + 1) / V)) + lqP X V k:=by
  have h1:=lq_word X k
  have h2:=Nat.div_add_mod (X / 18446744073709551616 ^ (k + 1)) V
  unfold lqP
  have e:V * (18446744073709551616 * (X / 18446744073709551616 ^ (k + 1) / V)) = 18446744073709551616 * (V * (X / 18446744073709551616 ^ (k + 1) / V)):=by ac_rfl
  rw [e]
  generalize V * (X / 18446744073709551616 ^ (k + 1) / V) = a at *
  omega
theorem lq_div {X V:Nat} (k:Nat) (hV:0 < V):X / 18446744073709551616 ^ k / V = 18446744073709551616 * (X / 18446744073709551616 ^ (k + 1) / V) + lqP X V k / V:=by
  conv => lhs;rw [lq_split k hV,Nat.add_comm,Nat.add_mul_div_left _ _ hV]
  rw [Nat.add_comm]
theorem lq_mod {X V:Nat} (k:Nat) (hV:0 < V):X / 18446744073709551616 ^ k % V = lqP X V k % V:=by
  conv => lhs;rw [lq_split k hV,Nat.add_comm,Nat.add_mul_mod_self_left]
theorem lq_U (X V k:Nat):lqU X V (k + 1) / 18446744073709551616 ^ k = lqP X V k:=by
  unfold lqU lqP
  have hB:0 < 18446744073709551616 ^ k:=Nat.pow_pos (by decide)
  have e:X % 18446744073709551616 ^ (k + 1) = X % 18446744073709551616 ^ k + 18446744073709551616 ^ k * (X / 18446744073709551616 ^ k % 18446744073709551616):=by rw [Nat.pow_succ,Nat.mod_mul]
  have e2:∀ a:Nat,a * 18446744073709551616 ^ (k + 1) = 18446744073709551616 ^ k * (a * 18446744073709551616):=by intro a;rw [Nat.pow_succ];ac_rfl
  rw [e,e2,Nat.add_comm (X % _),← Nat.add_assoc,← Nat.mul_add,Nat.add_comm,Nat.add_mul_div_left _ _ hB,Nat.div_eq_of_lt (Nat.mod_lt _ hB),Nat.zero_add]
theorem lq_Umod (X V k:Nat):lqU X V (k + 1) % 18446744073709551616 ^ k = X % 18446744073709551616 ^ k:=by
  unfold lqU
  have e:X % 18446744073709551616 ^ (k + 1) = X % 18446744073709551616 ^ k + 18446744073709551616 ^ k * (X / 18446744073709551616 ^ k % 18446744073709551616):=by rw [Nat.pow_succ,Nat.mod_mul]
  have e2:∀ a:Nat,a * 18446744073709551616 ^ (k + 1) = 18446744073709551616 ^ k * (a * 18446744073709551616):=by intro a;rw [Nat.pow_succ];ac_rfl
  rw [e,e2,Nat.add_comm (X % _),← Nat.add_assoc,← Nat.mul_add,Nat.add_comm,Nat.add_mul_mod_self_left,Nat.mod_mod]
theorem lq_drop {L k:Nat} (U:Nat) (h:k≤L):(wds L U).drop k = wds (L - k) (U / 18446744073709551616 ^ k):=by
  have e:=dgs_append (B:=18446744073709551616) k (L - k) U
  rw [show k + (L - k) = L by omega] at e
  show (dgs _ L U).drop k = dgs _ _ _
  rw [e,List.drop_left' (dgs_length _ _ _)]
theorem lq_take {L k:Nat} (U:Nat) (h:k≤L):(wds L U).take k = wds k U:=by
  have e:=dgs_append (B:=18446744073709551616) k (L - k) U
  rw [show k + (L - k) = L by omega] at e
  show (dgs _ L U).take k = dgs _ _ _
  rw [e,List.take_left' (dgs_length _ _ _)]
theorem lq_piece {X V L n k:Nat} (hV:0 < V) (hVn:V < 18446744073709551616 ^ n) (hL:k + (n + 1)≤L):((wds L (lqU X V (k + 1))).drop k).take (n + 1) = wds (n + 1) (lqP X V k)∧nW (((wds L (lqU X V (k + 1))).drop k).take (n + 1)) = lqP X V k:=by
  have e:((wds L (lqU X V (k + 1))).drop k).take (n + 1) = wds (n + 1) (lqP X V k):=by
    rw [lq_drop _ (by omega),lq_U,lq_take _ (by omega)]
  refine ⟨e,?_⟩
  rw [e]
  refine nW_wds (Nat.lt_of_lt_of_le (lq_lt k hV) ?_)
  rw [Nat.pow_succ]
  exact Nat.mul_le_mul_right _ (by omega)
theorem wds_modk (k x:Nat):wds k (x % 18446744073709551616 ^ k) = wds k x:=dgs_mod _ _
theorem lq_splice {X V L n k:Nat} (hV:0 < V) (hVn:V < 18446744073709551616 ^ n) (hL:k + (n + 1)≤L):splW (wds L (lqU X V (k + 1))) k (n + 1) (lqP X V k - V * (lqP X V k / V)) = wds L (lqU X V k):=by
  have hm:lqP X V k - V * (lqP X V k / V) = X / 18446744073709551616 ^ k % V:=by
    rw [lq_mod k hV]
    have:=Nat.div_add_mod (lqP X V k) V
    omega
  have hB:0 < 18446744073709551616 ^ k:=Nat.pow_pos (by decide)
  have h2:lqU X V k / 18446744073709551616 ^ k = X / 18446744073709551616 ^ k % V:=by
    unfold lqU
    rw [Nat.mul_comm,Nat.add_comm,Nat.add_mul_div_left _ _ hB,Nat.div_eq_of_lt (Nat.mod_lt _ hB),Nat.zero_add]
  have h3:lqU X V k % 18446744073709551616 ^ k = X % 18446744073709551616 ^ k:=by
    unfold lqU
    rw [Nat.mul_comm,Nat.add_comm,Nat.add_mul_mod_self_left,Nat.mod_mod]
  have h4:X / 18446744073709551616 ^ k % V < 18446744073709551616 ^ n:=Nat.lt_trans (Nat.mod_lt _ hV) hVn
  have hPn:lqP X V k < 18446744073709551616 ^ (n + 1):=by
    refine Nat.lt_of_lt_of_le (lq_lt k hV) ?_
    rw [Nat.pow_succ]
    exact Nat.mul_le_mul_right _ (by omega)
  have hn1:18446744073709551616 ^ n≤18446744073709551616 ^ (n + 1):=Nat.pow_le_pow_right (by decide) (by omega)
  unfold splW
  rw [hm,lq_take _ (by omega),← wds_modk k,lq_Umod,← h3,wds_modk,← List.drop_drop,lq_drop _ (by omega),lq_U,lq_drop _ (by omega),Nat.div_eq_of_lt hPn,← h2]
  have e:=dgs_append (B:=18446744073709551616) k (L - k) (lqU X V k)
  have e2:=dgs_append (B:=18446744073709551616) (n + 1) (L - k - (n + 1)) (lqU X V k / 18446744073709551616 ^ k)
  rw [show n + 1 + (L - k - (n + 1)) = L - k by omega,show lqU X V k / 18446744073709551616 ^ k / 18446744073709551616 ^ (n + 1) = 0 from Nat.div_eq_of_lt (by rw [h2];omega)] at e2
  rw [show k + (L - k) = L by omega,e2] at e
  exact e.symm
theorem lq_set {X V la k:Nat} (hV:0 < V) (hk:k < la):(wds la (lqQ X V (k + 1))).set k ((lqP X V k / V:Nat):Int) = wds la (lqQ X V k):=by
  have hlen:(wds la (lqQ X V (k + 1))).length = la:=dgs_length _ _ _
  have hg:lqP X V k / V < 18446744073709551616:=by rw [Nat.div_lt_iff_lt_mul hV,Nat.mul_comm];exact lq_lt k hV
  have hB:0 < 18446744073709551616 ^ k:=Nat.pow_pos (by decide)
  have hq:lqQ X V (k + 1) = 18446744073709551616 ^ k * (X / 18446744073709551616 ^ (k + 1) / V * 18446744073709551616):=by unfold lqQ;rw [Nat.pow_succ];ac_rfl
  have hat:at0 (wds la (lqQ X V (k + 1))) k = 0:=by
    have:=at0_dgs (B:=18446744073709551616) (lqQ X V (k + 1)) hk
    rw [hq,Nat.mul_div_cancel_left _ hB,Nat.mul_mod_left] at this
    rw [hq];exact this
  refine dgs_eq (dg_set (wds_Wd _ _) ⟨Int.natCast_nonneg _,by exact_mod_cast hg⟩ _) (by rw [List.length_set,hlen]) ?_
  have h9:=num_set (B:=18446744073709551616) (l:=wds la (lqQ X V (k + 1))) (i:=k) ((lqP X V k / V:Nat):Int) (by rw [hlen];exact hk)
  rw [hat,Int.toNat_natCast,num_dgs] at h9
  simp only [Int.toNat_zero,Nat.zero_mul,Nat.add_zero] at h9
  rw [h9,Nat.mod_add_mod]
  congr 1
  unfold lqQ
  rw [lq_div k hV,Nat.add_mul,Nat.pow_succ]
  congr 1
  ac_rfl
theorem lq_none {X V la k:Nat} (hV:0 < V) (hX:X < 18446744073709551616 ^ la * V) (hk:la≤k):lqQ X V k = 0∧lqP X V k / V = 0:=by
  have h1:∀ j,la≤j→X / 18446744073709551616 ^ j / V = 0:=by
    intro j hj
    refine Nat.div_eq_of_lt ?_
    rw [Nat.div_lt_iff_lt_mul (Nat.pow_pos (by decide)),Nat.mul_comm]
    exact Nat.lt_of_lt_of_le hX (Nat.mul_le_mul_right _ (Nat.pow_le_pow_right (by decide) hj))
  refine ⟨by unfold lqQ;rw [h1 k hk,Nat.zero_mul],?_⟩
  have:=lq_div (X:=X) k hV
  rw [h1 k hk] at this
  exact (Nat.add_eq_zero_iff.1 this.symm).2
theorem lq_guess {P V n:Nat} (hn:0 < n) (hV:0 < V) (hVt:0 < V / 18446744073709551616 ^ (n - 1)):P / V≤P / 18446744073709551616 ^ (n - 1) / (V / 18446744073709551616 ^ (n - 1)):=by
  rw [Nat.le_div_iff_mul_le hVt,Nat.le_div_iff_mul_le (Nat.pow_pos (by decide)),Nat.mul_assoc]
  exact Nat.le_trans (Nat.mul_le_mul_left _ (Nat.div_mul_le_self _ _)) (Nat.div_mul_le_self _ _)
theorem lq_tops {X V L n k:Nat} (hn:0 < n) (hV:0 < V) (hVn:V < 18446744073709551616 ^ n) (hL:k + (n + 1)≤L) :
    at0 (wds L (lqU X V (k + 1))) (k + n) = ((lqP X V k / 18446744073709551616 ^ n:Nat):Int)∧at0 (wds L (lqU X V (k + 1))) (k + n - 1) = ((lqP X V k / 18446744073709551616 ^ (n - 1) % 18446744073709551616:Nat):Int)∧at0 (wds n V) (n - 1) = ((V / 18446744073709551616 ^ (n - 1):Nat):Int) ∧
      lqP X V k / 18446744073709551616 ^ n * 18446744073709551616 + lqP X V k / 18446744073709551616 ^ (n - 1) % 18446744073709551616 = lqP X V k / 18446744073709551616 ^ (n - 1):=by
  have hPn:lqP X V k < 18446744073709551616 ^ n * 18446744073709551616:=by
    refine Nat.lt_of_lt_of_le (lq_lt k hV) ?_
    exact Nat.mul_le_mul_right _ (by omega)
  refine ⟨?_,?_,?_,?_⟩
  · have:=at0_dgs (B:=18446744073709551616) (lqU X V (k + 1)) (show k + n < L by omega)
    rw [Nat.pow_add,← Nat.div_div_eq_div_mul,lq_U,Nat.mod_eq_of_lt (by rw [Nat.div_lt_iff_lt_mul (Nat.pow_pos (by decide)),Nat.mul_comm];exact hPn)] at this
    exact this
  · have:=at0_dgs (B:=18446744073709551616) (lqU X V (k + 1)) (show k + (n - 1) < L by omega)
    rw [Nat.pow_add,← Nat.div_div_eq_div_mul,lq_U] at this
    rw [show k + n - 1 = k + (n - 1) by omega]
    exact this
  · have:=at0_dgs (B:=18446744073709551616) V (show n - 1 < n by omega)
    rw [Nat.mod_eq_of_lt (by rw [Nat.div_lt_iff_lt_mul (Nat.pow_pos (by decide)),← Nat.pow_succ',show (n - 1).succ = n by omega];exact hVn)] at this
    exact this
  · have:=lq_word (lqP X V k) (n - 1)
    rw [show n - 1 + 1 = n by omega] at this
    omega
theorem lq_back (R i s:Nat) (hs:s≤64):R * 2 ^ s / 18446744073709551616 ^ i % 18446744073709551616 / 2 ^ s + R * 2 ^ s / 18446744073709551616 ^ (i + 1) % 18446744073709551616 * 2 ^ (64 - s) % 18446744073709551616 = R / 18446744073709551616 ^ i % 18446744073709551616:=by
  have hS:0 < 2 ^ s:=Nat.pow_pos (by decide)
  have hpp:2 ^ s * 2 ^ (64 - s) = 18446744073709551616:=by rw [← Nat.pow_add,show s + (64 - s) = 64 by omega]
  have h1:R * 2 ^ s / 18446744073709551616 ^ i / 2 ^ s = R / 18446744073709551616 ^ i:=by
    rw [Nat.div_div_eq_div_mul,Nat.mul_div_mul_right _ _ hS]
  obtain ⟨T,hT⟩:∃ T,T = R * 2 ^ s / 18446744073709551616 ^ i:=⟨_,rfl⟩
  have h2:R * 2 ^ s / 18446744073709551616 ^ (i + 1) = T / 18446744073709551616:=by rw [Nat.pow_succ,← Nat.div_div_eq_div_mul,hT]
  rw [h2,← hT]
  rw [← hT] at h1
  obtain ⟨y,hy⟩:∃ y,y = R / 18446744073709551616 ^ i:=⟨_,rfl⟩
  rw [← hy] at h1 ⊢
  have h3:T / 18446744073709551616 = y / 2 ^ (64 - s):=by rw [← h1,Nat.div_div_eq_div_mul,hpp]
  have h4:T % 18446744073709551616 / 2 ^ s = y % 2 ^ (64 - s):=by
    rw [← h1,← hpp,Nat.mod_mul_right_div_self]
  have h5:y / 2 ^ (64 - s) % 18446744073709551616 * 2 ^ (64 - s) % 18446744073709551616 = 2 ^ (64 - s) * (y / 2 ^ (64 - s) % 2 ^ s):=by
    conv => lhs;rw [← hpp]
    rw [Nat.mul_mod_mul_right,Nat.mod_mul_right_mod,Nat.mul_comm]
  rw [h3,h4,h5,← Nat.mod_mul,Nat.mul_comm,hpp]
theorem lq_bits (R i s:Nat) (hs0:0 < s) (hs:s < 64):Go.bits .or .u64 (((R * 2 ^ s / 18446744073709551616 ^ i % 18446744073709551616:Nat):Int) / 2 ^ s) (IntKind.u64.wrap (((R * 2 ^ s / 18446744073709551616 ^ (i + 1) % 18446744073709551616:Nat):Int) * 2 ^ (64 - s))) = ((R / 18446744073709551616 ^ i % 18446744073709551616:Nat):Int):=by
  have hb:=lq_back R i s (by omega)
  have h0:R * 2 ^ s / 18446744073709551616 ^ i % 18446744073709551616 < 18446744073709551616:=Nat.mod_lt _ (by decide)
  generalize R * 2 ^ s / 18446744073709551616 ^ i % 18446744073709551616 = x at *
  generalize R * 2 ^ s / 18446744073709551616 ^ (i + 1) % 18446744073709551616 = y at *
  have hS:0 < 2 ^ s:=Nat.pow_pos (by decide)
  have hpp:2 ^ s * 2 ^ (64 - s) = 18446744073709551616:=by rw [← Nat.pow_add,show s + (64 - s) = 64 by omega]
  obtain ⟨a,ha⟩:∃ a,a = x / 2 ^ s:=⟨_,rfl⟩
  obtain ⟨b,hbb⟩:∃ b,b = y * 2 ^ (64 - s) % 18446744073709551616:=⟨_,rfl⟩
  have e1:(x:Int) / 2 ^ s = (a:Int):=by
    have e:(2:Int) ^ s = ((2 ^ s:Nat):Int):=by simp
    rw [e,← Int.natCast_ediv,ha]
  have e2:IntKind.u64.wrap ((y:Int) * 2 ^ (64 - s)) = (b:Int):=by
    rw [wU,hbb]
    have e:((y:Int) * 2 ^ (64 - s)) = ((y * 2 ^ (64 - s):Nat):Int):=by simp
    rw [e];omega
  have hal:a < 2 ^ (64 - s):=by rw [ha,Nat.div_lt_iff_lt_mul hS,Nat.mul_comm,hpp];exact h0
  have hbm:b % 2 ^ (64 - s) = 0:=by
    rw [hbb,← hpp,Nat.mul_mod_mul_right,Nat.mul_mod_left]
  have hbl:b < 18446744073709551616:=by rw [hbb];exact Nat.mod_lt _ (by decide)
  have hal2:a < 18446744073709551616:=Nat.lt_of_lt_of_le hal (Nat.pow_le_pow_right (by decide) (by omega:64 - s≤64))
  rw [← ha,← hbb] at hb
  rw [e1,e2,u64_or _ _ (by omega) (by omega) (by omega) (by omega),Int.toNat_natCast,Int.toNat_natCast,Nat.or_comm,nat_join (64 - s)]
  · rw [← hb];omega
  · exact hbm
  · exact hal
theorem lq_one (R i s:Nat) (hs:s≤64) (h:s = 0∨R * 2 ^ s < 18446744073709551616 ^ (i + 1)):((R * 2 ^ s / 18446744073709551616 ^ i % 18446744073709551616:Nat):Int) / 2 ^ s = ((R / 18446744073709551616 ^ i % 18446744073709551616:Nat):Int):=by
  have hb:=lq_back R i s hs
  have hz:R * 2 ^ s / 18446744073709551616 ^ (i + 1) % 18446744073709551616 * 2 ^ (64 - s) % 18446744073709551616 = 0:=by
    rcases h with h | h
    · subst h;exact Nat.mul_mod_left _ _
    · rw [Nat.div_eq_of_lt h];simp
  rw [hz,Nat.add_zero] at hb
  have e:(2:Int) ^ s = ((2 ^ s:Nat):Int):=by simp
  rw [e,← Int.natCast_ediv,hb]
theorem lq_done {A M s:Nat} (hs:0 < 2 ^ s):lqU (A * 2 ^ s) (M * 2 ^ s) 0 = A % M * 2 ^ s∧lqQ (A * 2 ^ s) (M * 2 ^ s) 0 = A / M:=by
  unfold lqU lqQ
  simp [Nat.mod_one,Nat.mul_mod_mul_right,Nat.mul_div_mul_right _ _ hs]
end Go.Proofs.Ytonpekldcnankaa.X
end
