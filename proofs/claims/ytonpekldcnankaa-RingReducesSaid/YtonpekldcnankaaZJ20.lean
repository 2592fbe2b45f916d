/- Texts of the walk and of the plain laws, laid together by a program: Dw, X38, Sp5q. -/
import Derived.Test.YtonpekldcnankaaZJ0
import Derived.Test.YtonpekldcnankaaZJ1
import Derived.Test.YtonpekldcnankaaZJ2
import Derived.Test.YtonpekldcnankaaZJ5
import Derived.Test.YtonpekldcnankaaZJ6
import Derived.Test.YtonpekldcnankaaZJ4
import Derived.Test.YtonpekldcnankaaZJ10
import Derived.Test.YtonpekldcnankaaZJ13
import Derived.Test.YtonpekldcnankaaZJ15
import Derived.Test.YtonpekldcnankaaZJ19
import Derived.Test.YtonpekldcnankaaZJ16
import Derived.Test.YtonpekldcnankaaZJ11
set_option maxHeartbeats 4000000
set_option maxRecDepth 100000
section
namespace Go.Proofs.Ytonpekldcnankaa.X
open Go.RowKit Go.Proofs.YtonpekldcnankaaW.PrintWords Go.Proofs.YtonpekldcnankaaW.PrintLast Go.Proofs.YtonpekldcnankaaW.PrintMore Go.Proofs.Ytonpekldcnankaa.Ma
set_option linter.unusedVariables false
set_option linter.unusedSimpArgs false
theorem box_stay {w W:World} {b:Nat} {v:Value} {t:TypeId} (h:w.heap[b]? = some (.cells #[v] t (0,0))) (hb:Below w.heap.size w W):W.cell? ⟨b,0,none⟩ = some v:=cell_of_one (blk_below h hb)
theorem two_made {w w3:World} (hB:Below w.heap.size w w3) {n m:Nat} (hn:n≤35184372088832) (hm:m≤35184372088832) :
    Kd.R (Kd.int .u64) 24 ((w3.alloc (.cells (Zs n) 24)).alloc (.cells (Zs m) 24)).drew w.heap.size (fun k_ => k_ = w3.heap.size) (.slice (some ⟨w3.heap.size,0,none⟩) n n) (List.replicate n 0) ∧
    Kd.R (Kd.int .u64) 24 ((w3.alloc (.cells (Zs n) 24)).alloc (.cells (Zs m) 24)).drew w.heap.size (fun k_ => k_ = w3.heap.size + 1) (.slice (some ⟨w3.heap.size + 1,0,none⟩) m m) (List.replicate m 0) ∧
    Below w.heap.size w ((w3.alloc (.cells (Zs n) 24)).alloc (.cells (Zs m) 24)).drew:=by
  have hs:=hB.size
  refine ⟨R_zs (blk_drew (blk_alloc (blk_new w3 _) _)) hs hn rfl,R_zs (g:=w3.heap.size + 1) ?_ (by omega) hm rfl,Below.drew (below_alloc (below_alloc hB _) _)⟩
  have:=blk_new (w3.alloc (.cells (Zs n) 24)) (.cells (Zs m) 24 (0,0))
  refine blk_drew ?_
  simpa using this
def DvI (w:World) (A M n m k:Nat) (vq vr:Value) (wr:World):Prop :=
  Kd.R (Kd.int .u64) 24 wr w.heap.size (fun k_ => w.heap.size≤k_) vq (wds n (A / 2 ^ k / M * 2 ^ k)) ∧
  Kd.R (Kd.int .u64) 24 wr w.heap.size (fun k_ => w.heap.size≤k_∧some k_≠vq.ownBlock) vr (wds m (A / 2 ^ k % M))∧Below w.heap.size w wr
theorem DvI.step {w wr w7:World} {A M n m kk gq cq f base7:Nat} {vr v7:Value} (hI:DvI w A M n m (kk + 1) (.slice (some ⟨gq,0,none⟩) n cq) vr wr) (hB7:Below wr.heap.size wr w7) (hb7:wr.heap.size≤base7)
    (hR7:Kd.R (Kd.int .u64) 24 w7 base7 (fun _ => True) v7 (wds m (A / 2 ^ kk % M))) (hkk:kk < 64 * n) (hA:A < 18446744073709551616 ^ n) (hf:f < 2) (hq:A / 2 ^ kk / M = 2 * (A / 2 ^ (kk + 1) / M) + f) :
    ∃ y0:Int,w7.cell? ⟨gq,kk / 64,none⟩ = some (.int .u64 y0)∧w7.frozen? ⟨gq,kk / 64,none⟩ = false ∧
      DvI w A M n m kk (.slice (some ⟨gq,0,none⟩) n cq) v7 ((w7.setCell ⟨gq,kk / 64,none⟩ (.int .u64 (Go.bits .or .u64 y0 (IntKind.u64.wrap ((f:Int) * 2 ^ (kk % 64)))))).drew):=by
  obtain ⟨h1,h2,h3⟩:=hI
  have hk:kk / 64 < n:=by omega
  have hlt:gq < wr.heap.size:=Kd.R_lt h1 gq rfl
  have hwq:w.heap.size≤gq:=h1.1 gq rfl
  have h17:=Kd.R_below h1 hB7
  obtain ⟨hx,hfz⟩:=Kd.R_celln 0 h17 ((kk / 64:Nat):Int) (by omega) (by omega)
  rw [Int.toNat_natCast] at hx hfz
  obtain ⟨hP,hQ⟩:=Kd.R_putg h17 ((kk / 64:Nat):Int) (Go.bits .or .u64 (at0 (wds n (A / 2 ^ (kk + 1) / M * 2 ^ (kk + 1))) (kk / 64)) (IntKind.u64.wrap ((f:Int) * 2 ^ (kk % 64))))
  rw [Int.toNat_natCast] at hP hQ
  have hQl:A / 2 ^ (kk + 1) / M * 2 ^ (kk + 1) < 18446744073709551616 ^ n:=by
    refine Nat.lt_of_le_of_lt (Nat.le_trans (Nat.mul_le_mul_right _ (Nat.div_le_self _ _)) (Nat.div_mul_le_self _ _)) hA
  rw [dq_set hkk (Nat.mul_mod_left _ _) hQl hf,show A / 2 ^ (kk + 1) / M * 2 ^ (kk + 1) + f * 2 ^ kk = A / 2 ^ kk / M * 2 ^ kk by rw [hq,Nat.add_mul,Nat.pow_succ];congr 1;rw [Nat.mul_comm (2 ^ kk) 2,← Nat.mul_assoc,Nat.mul_comm _ 2]] at hP
  refine ⟨at0 (wds n (A / 2 ^ (kk + 1) / M * 2 ^ (kk + 1))) (kk / 64),?_,hfz,?_⟩
  · rw [hx]
    show some (Value.int .u64 (rdOf 0 _ _)) = _
    unfold rdOf at0
    rw [Int.toNat_natCast]
  · have h7b:=Kd.R_bound hR7
    refine ⟨Kd.R_below hP (Below.drew (Below.refl _ _)),Kd.R_below (Kd.R_grown (Kd.R_mono (Kd.R_lower h7b (by omega)) (ok':=fun k_ => w.heap.size≤k_∧some k_≠(Value.slice (some ⟨gq,0,none⟩) n cq).ownBlock) (fun k hk2 => ⟨?_,?_⟩)) hQ (fun k hk2 e => ?_)) (Below.drew (Below.refl _ _)),?_⟩
    · have:=hk2.2.1
      omega
    · have:=hk2.2.1
      simp [Value.ownBlock]
      omega
    · exact hk2.2 e
    · exact Below.drew (pw_below_grown (below_then h3 h3.size hB7) (some gq) (below_then h3 h3.size hB7).size hQ (fun k hk2 => by cases hk2;exact hwq))
theorem Divide1_ok (A1:Option Addr) (c1:Nat) (l1:List Int) (A2:Option Addr) (c2:Nat) (l2:List Int) (ba bm bt:Nat) (t1 t2 t3:TypeId) (w:World)
    (hba:w.heap[ba]? = some (.cells #[.slice A1 l1.length c1] t1 (0,0))) (hbm:w.heap[bm]? = some (.cells #[.slice A2 l2.length c2] t2 (0,0))) (hbt:w.heap[bt]? = some (.cells #[.pointer none] t3 (0,0)))
    (hr1:Kd.C (Kd.int .u64) w A1 l1.length l1) (hc1:l1.length≤c1) (hr2:Kd.C (Kd.int .u64) w A2 l2.length l2) (hc2:l2.length≤c2) (h1:Wd l1) (h2:Wd l2) (hl1:l1.length≤300) (hl2:l2.length≤300) (hz:nW l2≠0) :
    Calls Try.prog 113 #[.pointer (some ⟨ba,0,none⟩),.pointer (some ⟨bm,0,none⟩),.pointer (some ⟨bt,0,none⟩)] w fun e w' => ∃ v0 v1:Value,e = .returned (.tuple #[v0,v1]) ∧
      Kd.R (Kd.int .u64) 24 w' w.heap.size (fun k_ => w.heap.size≤k_) v0 (wds l1.length (nW l1 / nW l2))∧Kd.R (Kd.int .u64) 24 w' w.heap.size (fun k_ => w.heap.size≤k_) v1 (wds l2.length (nW l1 % nW l2))∧Below w.heap.size w w':=by
  have HBX:=Aside0.mk (fun (W:World) (hW:Below w.heap.size w W) => And.intro (box_stay hba hW) (And.intro (box_stay hbm hW) (box_stay hbt hW)))
  obtain ⟨x1,x2,x3⟩:=HBX.out w (Below.refl _ _)
  have H1:=Aside0.mk hr1
  have H2:=Aside0.mk hr2
  have HW:=Aside0.mk (And.intro h1 (And.intro h2 hz))
  clear hba hbm hbt hr1 hr2 h1 h2 hz
  go_enter Try.func113,Try.ntmps113
  go_upto_region 2 with (go_at_call 114;(with_reducible refine (asked_ok A1 c1 l1 A2 c2 l2 _ H1.out hc1 H2.out hc2 HW.out.2.1 hl1 hl2 HW.out.2.2).mono ?_);rintro e w3 ⟨rfl,hb⟩;have HB3:=Aside0.mk hb;clear x1 x2 x3;obtain ⟨x1,x2,x3⟩:=HBX.out _ hb;clear hb)
  go_cut [5,6] (fun s5 s6 wx => ∃ Aq cq Ar cr,s5 = .slice Aq l1.length cq∧s6 = .slice Ar l2.length cr∧Aside0 (Kd.R (Kd.int .u64) 24 wx w.heap.size (fun k_ => w.heap.size≤k_) s5 (List.replicate l1.length 0)∧Kd.R (Kd.int .u64) 24 wx w.heap.size (fun k_ => w.heap.size≤k_∧some k_≠s5.ownBlock) s6 (List.replicate l2.length 0)∧Below w.heap.size w wx))
  case first =>
    have m1:=run_make_nat l1.length (by omega)
    have m2:=run_make_nat l2.length (by omega)
    obtain ⟨y1,_,_⟩:=HBX.out _ (below_alloc HB3.out (.cells (Zs l2.length) 24))
    obtain ⟨_,y2,_⟩:=HBX.out _ (below_alloc HB3.out (.cells (Zs l1.length) 24))
    go_region
    all_goals go_wp2
    all_goals go_meet
    · obtain ⟨q1,q2,q3⟩:=two_made HB3.out (n:=l1.length) (m:=l2.length) (by omega) (by omega)
      exact ⟨_,_,_,_,rfl,rfl,Kd.R_mono q1 (fun k hk => by have:=HB3.out.size;omega),Kd.R_mono q2 (fun k hk => by have:=HB3.out.size;simp [Value.ownBlock];omega),q3⟩
    · obtain ⟨q1,q2,q3⟩:=two_made HB3.out (n:=l2.length) (m:=l1.length) (by omega) (by omega)
      exact ⟨_,_,_,_,rfl,rfl,Kd.R_mono q2 (fun k hk => by have:=HB3.out.size;omega),Kd.R_mono q1 (fun k hk => by have:=HB3.out.size;simp [Value.ownBlock];omega),q3⟩
  case rest =>
    obtain ⟨Aq,cq,Ar,cr,rfl,rfl,hcut⟩:=hcut
    obtain ⟨hq,hr,hB⟩:=hcut.out
    have hNA:nW l1 / 2 ^ (64 * l1.length) = 0:=Nat.div_eq_of_lt (by have:=nW_lt HW.out.1;rw [Nat.pow_mul];exact this)
    have HI:=Aside0.mk (show DvI w (nW l1) (nW l2) l1.length l2.length (64 * l1.length) (.slice Aq l1.length cq) (.slice Ar l2.length cr) wc from by
      refine ⟨?_,?_,hB⟩
      · rw [hNA,Nat.zero_div,Nat.zero_mul,show wds l1.length 0 = List.replicate l1.length 0 from dgs_zero _];exact hq
      · rw [hNA,Nat.zero_mod,show wds l2.length 0 = List.replicate l2.length 0 from dgs_zero _];exact hr)
    obtain ⟨x1,x2,x3⟩:=HBX.out _ hB
    clear hq hr hB hcut hNA HB3
    obtain ⟨N,hN⟩:∃ N:Nat,N = 64 * l1.length:=⟨_,rfl⟩
    have p1:IntKind.i64.wrap (64 * (l1.length:Int)) = (N:Int):=by rw [i64_w,w64 (by omega) (by omega)];omega
    rw [← hN] at HI
    have HN:=Aside0.mk hN
    have hN2:N≤19200:=by omega
    clear hN
    go_wp2
    go_loopg [6,25] (N + 1) (fun g v6 v25 wr => ∃ i:Nat,i + g = N + 1∧i≤N∧v25 = .int .i64 i∧∃ Ar cr,v6 = .slice Ar l2.length cr∧Aside0 (DvI w (nW l1) (nW l2) l1.length l2.length (N - i) (.slice Aq l1.length cq) (.slice Ar l2.length cr) wr))
    case atStart => exact ⟨0,by omega,by omega,rfl,Ar,cr,rfl,HI⟩
    case round =>
      clear HI x1 x2 x3
      obtain ⟨i,hig,hin,rfl,Ar,cr,rfl,HI⟩:=hrel
      obtain ⟨x1,x2,x3⟩:=HBX.out _ HI.out.2.2
      cases gk with
      | zero => omega
      | succ k1 =>
        by_cases hlt:i < N
        · have d1:decide ((i:Int) < (N:Int)) = true:=decide_eq_true (by omega)
          have d2:decide (i < N) = true:=decide_eq_true hlt
          obtain ⟨kk,hkk⟩:∃ kk:Nat,kk = N - 1 - i:=⟨_,rfl⟩
          obtain ⟨N1,hN1⟩:∃ N1:Nat,N1 = N - 1:=⟨_,rfl⟩
          have p2:IntKind.i64.wrap ((N:Int) - 1) = (N1:Int):=by rw [i64_w,w64 (by omega) (by omega)];omega
          have p3:IntKind.i64.wrap ((N1:Int) - (i:Int)) = (kk:Int):=by rw [i64_w,w64 (by omega) (by omega)];omega
          have HK:=Aside0.mk (show i + (k1 + 1) = N + 1∧N - i = kk + 1∧N - (i + 1) = kk∧kk < N from ⟨hig,by omega,by omega,by omega⟩)
          clear hkk hN1 hig
          go_upto_region 8 with (fail)
          have hkl0:kk / 64 < l1.length:=by have:=HK.out.2.2.2;have:=HN.out;omega
          obtain ⟨gq,cq2,eq2,bq,lq,_⟩:=Kd.R_form HI.out.1 (by rw [dgs_length];omega)
          rw [dgs_length] at eq2
          injection eq2 with eq3 _ eq4
          subst eq3
          subst eq4
          have HGQ:=Aside0.mk (And.intro bq lq)
          clear bq lq
          obtain ⟨bit,hbit⟩:∃ b:Nat,b = nW l1 / 2 ^ kk % 2:=⟨_,rfl⟩
          obtain ⟨T,hT⟩:∃ T:Nat,T = 2 * (nW l1 / 2 ^ (kk + 1) % nW l2) + bit:=⟨_,rfl⟩
          have hkl:kk / 64 < l1.length:=by have:=HK.out.2.2.2;have:=HN.out;omega
          obtain ⟨ad,hA,hx⟩:=Kd.at_int H1.out ((kk / 64:Nat):Int) (by omega) (by omega)
          rw [rdA,Int.toNat_natCast] at hx
          subst hA
          obtain ⟨wd1,hwd1⟩:∃ x:Int,x = at0 l1 (kk / 64):=⟨_,rfl⟩
          have hbv:=dq_bit HW.out.1 kk
          rw [← hwd1] at hx hbv
          rw [← hbit] at hbv
          have hML:=nW_lt HW.out.2.1
          have hR1:nW l1 / 2 ^ (kk + 1) % nW l2 < nW l2:=Nat.mod_lt _ (by have:=HW.out.2.2;omega)
          have hSL:=sp_limbs_Left (c:=wd1 / 2 ^ (kk % 64)) (a:=wds l2.length (nW l1 / 2 ^ (kk + 1) % nW l2)) hbv.2 (wds_Wd _ _) (by rw [dgs_length];omega) hbv.1
          rw [dgs_length,nW_wds (Nat.lt_trans hR1 hML),← hT] at hSL
          obtain ⟨lr,hlr⟩:∃ l:List Int,l = wds l2.length (nW l1 / 2 ^ (kk + 1) % nW l2):=⟨_,rfl⟩
          rw [← hlr] at hSL
          have hll:lr.length = l2.length:=by rw [hlr,dgs_length]
          obtain ⟨lT,hlT⟩:∃ l:List Int,l = wds l2.length T:=⟨_,rfl⟩
          obtain ⟨out,hout⟩:∃ o:Int,o = ((T / 18446744073709551616 ^ l2.length:Nat):Int):=⟨_,rfl⟩
          rw [← hlT,← hout] at hSL
          have SL:=Aside0.mk hSL
          have hRc:Kd.C (Kd.int .u64) wr Ar lr.length lr:=by
            have:=(Kd.R_reads' HI.out.2.1).2.2
            rw [HK.out.2.1,← hlr] at this
            exact this
          have hRcc:l2.length≤cr:=(Kd.R_reads' HI.out.2.1).2.1
          have HRc:=Aside0.mk hRc
          have hx':=(HI.out.2.2.cell (World.block_lt_of_cell? w _ hx)).trans hx
          have q1:IntKind.i64.wrap ((kk:Int).tdiv 64) = ((kk / 64:Nat):Int):=by rw [Int.tdiv_eq_ediv_of_nonneg (by omega),i64_w,w64 (by omega) (by omega)];omega
          have q2:IntKind.i64.wrap ((kk:Int).tmod 64) = ((kk % 64:Nat):Int):=by rw [Int.tmod_eq_emod_of_nonneg (by omega),i64_w,w64 (by omega) (by omega)];omega
          have q1b:IntKind.i64.wrap ((kk:Int) / 64) = ((kk / 64:Nat):Int):=by rw [i64_w,w64 (by omega) (by omega)];omega
          have q2b:IntKind.i64.wrap ((kk:Int) % 64) = ((kk % 64:Nat):Int):=by rw [i64_w,w64 (by omega) (by omega)];omega
          have q2c:(kk:Int).tmod 64 = ((kk % 64:Nat):Int):=by rw [Int.tmod_eq_emod_of_nonneg (by omega)];omega
          have q2d:(kk:Int) % 64 = ((kk % 64:Nat):Int):=by omega
          have HF:=Aside0.mk (show bit = nW l1 / 2 ^ kk % 2∧T = 2 * (nW l1 / 2 ^ (kk + 1) % nW l2) + bit∧lT = wds l2.length T∧out = ((T / 18446744073709551616 ^ l2.length:Nat):Int)∧lr.length = l2.length from ⟨hbit,hT,hlT,hout,hll⟩)
          obtain ⟨kj,hkj⟩:∃ j:Nat,j = kk / 64:=⟨_,rfl⟩
          obtain ⟨ks,hks⟩:∃ j:Nat,j = kk % 64:=⟨_,rfl⟩
          rw [← hkj] at q1 q1b hx' hkl
          rw [← hks] at q2 q2b q2c q2d SL
          have HKJ:=Aside0.mk (And.intro hkj hks)
          have q3:(0:Int)≤(kj:Int):=by omega
          have q4:(kj:Int) < (l1.length:Int):=by omega
          have q5:(0:Int)≤(ks:Int):=by omega
          have hks2:ks < 64:=by omega
          have hshr:=run_shr64 wd1 ks hks2
          clear hx hwd1 hbv hML hR1 hlr hlT hout hRc hbit hT hkj hks hll hSL
          have hTM:T < 2 * nW l2:=by
            have:=dq_lt (nW l1) (nW l2) kk (by have:=HW.out.2.2;omega)
            rw [← HF.out.1,← HF.out.2.1] at this
            exact this
          obtain ⟨less,low,f,s1,hf2,hfv,hbits,s5,hand⟩:=dq_round HW.out.2.1 hl2 hTM
          rw [← HF.out.2.2.1] at s1 s5
          rw [← HF.out.2.2.2.1] at hbits
          have hTm:T % nW l2 = nW l1 / 2 ^ kk % nW l2:=by
            have:=dq_rest (nW l1) (nW l2) kk (by have:=HW.out.2.2;omega)
            rw [← HF.out.1,← HF.out.2.1] at this
            exact this
          rw [hTm] at s5
          have hTl:lT.length = l2.length:=by rw [HF.out.2.2.1,dgs_length]
          have hqs:=dq_quot (nW l1) (nW l2) kk (by have:=HW.out.2.2;omega)
          rw [← HF.out.1,← HF.out.2.1,← hfv] at hqs
          obtain ⟨ln,hln⟩:∃ l:List Int,l = wds l2.length (nW l1 / 2 ^ kk % nW l2):=⟨_,rfl⟩
          rw [← hln] at s5
          have hlnl:ln.length = l2.length:=by rw [hln,dgs_length]
          have HCL:=Aside0.mk (show ∀ W:World,Below wr.heap.size wr W→Calls Try.prog 115 #[.pointer none,.slice Ar l2.length cr,.int .u64 (wd1 / 2 ^ ks)] W fun e w' => ∃ A c,e = .returned (.tuple #[.slice A l2.length c,.int .u64 out])∧Kd.R (Kd.int .u64) 24 w' wr.heap.size (fun _ => True) (.slice A l2.length c) lT∧Below wr.heap.size wr w' from by
            intro W hW
            have hh:=limbs_Left.calls Ar cr lr (wd1 / 2 ^ ks) lT out W (Kd.C_below HRc.out hW) (by rw [HF.out.2.2.2.2];exact hRcc) SL.out
            rw [HF.out.2.2.2.2] at hh
            refine hh.mono ?_
            rintro e w' ⟨v0,rfl,h1,h2⟩
            obtain ⟨A,c,e9⟩:=Kd.R_slice h1
            rw [hTl] at e9
            subst e9
            exact ⟨A,c,rfl,Kd.R_lower h1 hW.size,below_then hW hW.size h2⟩)
          have HCS:=Aside0.mk (show ∀ (W:World) (A:Option Addr) (c:Nat),Below w.heap.size w W→Kd.R (Kd.int .u64) 24 W wr.heap.size (fun _ => True) (.slice A l2.length c) lT→Calls Try.prog 107 #[.pointer none,.slice A l2.length c,.slice A2 l2.length c2] W fun e w' => ∃ A' c',e = .returned (.tuple #[.slice A' less.length c',.int .u64 low])∧Kd.R (Kd.int .u64) 24 w' W.heap.size (fun _ => True) (.slice A' less.length c') less∧Below W.heap.size W w' from by
            intro W A c hW hR
            obtain ⟨hR1,hR2,hR3⟩:=Kd.R_reads' hR
            have hh:=limbs_Sub.calls A c lT A2 c2 l2 less low W hR3 (by rw [hTl];exact hR2) (Kd.C_below H2.out hW) hc2 s1
            rw [hTl] at hh
            refine hh.mono ?_
            rintro e w' ⟨v0,rfl,h1,h2⟩
            obtain ⟨A',c',e9⟩:=Kd.R_slice h1
            subst e9
            exact ⟨A',c',rfl,h1,h2⟩)
          have HCE:=Aside0.mk (show ∀ (W:World) (A:Option Addr) (c:Nat) (A':Option Addr) (c':Nat),Kd.C (Kd.int .u64) W A' less.length less→less.length≤c'→Kd.C (Kd.int .u64) W A lT.length lT→l2.length≤c→Calls Try.prog 108 #[.pointer none,.int .u64 (f:Int),.slice A' less.length c',.slice A l2.length c] W fun e w' => ∃ A'' c'',e = .returned (.slice A'' l2.length c'')∧Kd.R (Kd.int .u64) 24 w' W.heap.size (fun _ => True) (.slice A'' l2.length c'') ln∧Below W.heap.size W w' from by
            intro W A c A' c' hL hLc hT hTc
            have hh:=limbs_Select.calls (f:Int) A' c' less A c lT ln W hL hLc hT (by rw [hTl];exact hTc) s5
            rw [hTl] at hh
            refine hh.mono ?_
            rintro e w' ⟨v0,rfl,h1,h2⟩
            obtain ⟨A'',c'',e9⟩:=Kd.R_slice h1
            rw [hlnl] at e9
            subst e9
            exact ⟨A'',c'',rfl,h1,h2⟩)
          have HS:=Aside0.mk (show nW l1 / 2 ^ kk / nW l2 = 2 * (nW l1 / 2 ^ (kk + 1) / nW l2) + f∧f < 2∧ln = wds l2.length (nW l1 / 2 ^ kk % nW l2)∧lT.length = l2.length from ⟨hqs,hf2,hln,hTl⟩)
          clear hTM s1 hf2 hfv s5 hTm hTl hqs hln hlnl
          go_cut [6,9] (fun s6 s9 wx => ∃ Ar cr,s6 = .slice Ar l2.length cr∧s9 = .int .u64 out∧Aside0 (Kd.R (Kd.int .u64) 24 wx wr.heap.size (fun _ => True) (.slice Ar l2.length cr) lT∧Below wr.heap.size wr wx))
          case first =>
            go_region_with (go_at_call 115;(with_reducible refine (HCL.out _ (Below.drew (Below.refl _ _))).mono ?_);rintro e w5 ⟨A5,c5,rfl,h5,h6⟩;have HL5:=Aside0.mk (And.intro h5 h6);clear h5 h6)
            all_goals (go_wp2;go_meet;exact ⟨_,_,rfl,rfl,HL5⟩)
          case rest =>
            obtain ⟨A5,c5,rfl,rfl,HL5⟩:=hcut
            have hB5:=below_then HI.out.2.2 HI.out.2.2.size HL5.out.2
            clear x1 x2 x3
            obtain ⟨x1,x2,x3⟩:=HBX.out _ hB5
            have HB5:=Aside0.mk hB5
            clear hB5
            go_upto_region 12 with (first
              | (go_at_call 107;(with_reducible refine (HCS.out _ _ _ HB5.out HL5.out.1).mono ?_);rintro e w6 ⟨A6,c6,rfl,h5,h6⟩;have HL6:=Aside0.mk (And.intro h5 h6);have HB6:=Aside0.mk (below_then HB5.out HB5.out.size h6);clear h5 h6;clear x1 x2 x3;obtain ⟨x1,x2,x3⟩:=HBX.out _ HB6.out)
              | (go_at_call 108;(with_reducible refine (HCE.out _ _ _ _ _ (Kd.R_reads' HL6.out.1).2.2 (Kd.R_reads' HL6.out.1).2.1 (Kd.C_below (Kd.R_reads' HL5.out.1).2.2 HL6.out.2) (Kd.R_reads' HL5.out.1).2.1).mono ?_);rintro e w7 ⟨A7,c7,rfl,h5,h6⟩;have HL7:=Aside0.mk (And.intro h5 h6);have HB7:=Aside0.mk (below_then HB6.out HB6.out.size h6);clear h5 h6;clear x1 x2 x3;obtain ⟨x1,x2,x3⟩:=HBX.out _ HB7.out))
            have hSt:=DvI.step (kk:=kk) (f:=f) (by have:=HI.out;rw [HK.out.2.1] at this;exact this) (below_then HL5.out.2 HL5.out.2.size (below_then HL6.out.2 HL6.out.2.size HL7.out.2)) (Nat.le_trans HL5.out.2.size HL6.out.2.size) (by have:=HL7.out.1;rw [HS.out.2.2.1] at this;exact this) (by have:=HK.out.2.2.2;have:=HN.out;omega) (nW_lt HW.out.1) HS.out.2.1 HS.out.1
            obtain ⟨y0,hy0,hyf,hI8⟩:=hSt
            rw [← HKJ.out.1] at hy0 hyf hI8
            rw [← HKJ.out.2] at hI8
            have HI8:=Aside0.mk hI8
            clear hI8
            have hshl:=run_shl64 (f:Int) ks hks2
            have p9:IntKind.i64.wrap ((i:Int) + 1) = ((i + 1:Nat):Int):=by rw [i64_w,w64 (by omega) (by omega)];omega
            go_region
            go_wp2
            go_roundg k1
            case measure => omega
            case rel => exact ⟨i + 1,by have:=HK.out.1;omega,by omega,rfl,A7,c7,rfl,by rw [HK.out.2.2.1];exact HI8⟩
        · have d1:decide ((i:Int) < (N:Int)) = false:=decide_eq_false (by omega)
          have d2:decide (i < N) = false:=decide_eq_false hlt
          obtain ⟨g1,g2,g3⟩:=HI.out
          rw [show N - i = 0 by omega,Nat.pow_zero,Nat.div_one,Nat.mul_one] at g1
          rw [show N - i = 0 by omega,Nat.pow_zero,Nat.div_one] at g2
          have HG:=Aside0.mk (And.intro g1 (And.intro (Kd.R_mono g2 (ok':=fun k_ => w.heap.size≤k_) (fun k hk => hk.1)) g3))
          clear g1 g2 g3 HI
          go_wp2
          go_ret2
          exact ⟨_,_,rfl,HG.out⟩
theorem Divide1_throw (E:Int) (A1:Option Addr) (c1:Nat) (l1:List Int) (A2:Option Addr) (c2:Nat) (l2:List Int) (ba bm bt:Nat) (t1 t2:TypeId) (w:World)
    (hba:w.heap[ba]? = some (.cells #[.slice A1 l1.length c1] t1 (0,0))) (hbm:w.heap[bm]? = some (.cells #[.slice A2 l2.length c2] t2 (0,0)))
    (ha:Calls Try.prog 114 #[.slice A1 l1.length c1,.slice A2 l2.length c2] w fun e w' => e = .panicked (thrownP E)∧Below w.heap.size w w') :
    Calls Try.prog 113 #[.pointer (some ⟨ba,0,none⟩),.pointer (some ⟨bm,0,none⟩),.pointer (some ⟨bt,0,none⟩)] w fun e w' => e = .panicked (thrownP E)∧Below w.heap.size w w':=by
  have x1:=cell_of_one hba
  have x2:=cell_of_one hbm
  have HA:=Aside0.mk ha
  clear hba hbm ha
  go_enter Try.func113,Try.ntmps113
  go_wp2_with (go_at_call 114;(with_reducible refine HA.out.mono ?_);rintro e w3 ⟨rfl,hb⟩)
  refine ⟨by rfl,?_⟩
  exact ⟨rfl,hb⟩
theorem three_boxes (w:World) (a b c:Value) (t1 t2 t3:TypeId) (W:World) (hW:W = ((w.alloc (.cells #[a] t1)).alloc (.cells #[b] t2)).alloc (.cells #[c] t3)) :
    W.heap[w.heap.size]? = some (.cells #[a] t1 (0,0))∧W.heap[w.heap.size + 1]? = some (.cells #[b] t2 (0,0))∧W.heap[w.heap.size + 1 + 1]? = some (.cells #[c] t3 (0,0))∧Below w.heap.size w W:=by
  rw [hW]
  refine ⟨blk_alloc (blk_alloc (blk_new w _) _) _,blk_alloc ?_ _,?_,below_alloc (below_alloc (below_alloc (Below.refl _ _) _) _) _⟩
  · have:=blk_new (w.alloc (.cells #[a] t1)) (.cells #[b] t2 (0,0))
    simpa using this
  · have:=blk_new ((w.alloc (.cells #[a] t1)).alloc (.cells #[b] t2)) (.cells #[c] t3 (0,0))
    simpa using this
theorem product_Divide_ok (A1:Option Addr) (c1:Nat) (l1:List Int) (A2:Option Addr) (c2:Nat) (l2:List Int) (w:World)
    (hr1:Kd.C (Kd.int .u64) w A1 l1.length l1) (hc1:l1.length≤c1) (hr2:Kd.C (Kd.int .u64) w A2 l2.length l2) (hc2:l2.length≤c2)
    (h1:l1.all wd = true) (h2:l2.all wd = true) (h3:l1.length≤300) (h4:l2.length≤300) (hz:¬ num 18446744073709551616 l2 = 0) :
    Calls Try.prog 79 #[.pointer none,.slice A1 l1.length c1,.slice A2 l2.length c2] w fun e w' => ∃ v0_ v1_:Value,e = .returned (.tuple #[v0_,v1_,.int .i64 0])∧Kd.R (Kd.int .u64) 24 w' w.heap.size (fun _ => True) v0_ (dgs 18446744073709551616 l1.length (num 18446744073709551616 l1 / num 18446744073709551616 l2))∧Kd.R (Kd.int .u64) 24 w' w.heap.size (fun _ => True) v1_ (dgs 18446744073709551616 l2.length (num 18446744073709551616 l1 % num 18446744073709551616 l2))∧Below w.heap.size w w':=by
  obtain ⟨w0,hw0⟩:∃ w0:World,w0 = ((w.alloc (.cells #[.pointer none] 71)).alloc (.cells #[.slice A1 l1.length c1] 23)).alloc (.cells #[.slice A2 l2.length c2] 23):=⟨_,rfl⟩
  obtain ⟨b0,b1,b2,hB⟩:=three_boxes w _ _ _ _ _ _ w0 hw0
  have HD:=Aside0.mk (show ∀ w1:World,Below w0.heap.size w0 w1→_ from fun w1 hw1 => Divide1_ok A1 c1 l1 A2 c2 l2 (w.heap.size + 1) (w.heap.size + 1 + 1) w.heap.size _ _ _ w1 (blk_below b1 hw1) (blk_below b2 hw1) (blk_below b0 hw1) (Kd.C_below hr1 (below_then hB hB.size hw1)) hc1 (Kd.C_below hr2 (below_then hB hB.size hw1)) hc2 (wd_all.1 h1) (wd_all.1 h2) h3 h4 hz)
  have HL:=Aside0.mk (divided_ret _ _ _ _ w0 (fun _ => rfl) HD.out)
  have HB:=Aside0.mk hB
  clear b0 b1 b2 hB hr1 hr2 HD
  go_enter Try.func79,Try.ntmps79
  go_wp2_with fail
  rw [← hw0]
  refine HL.out.mono ?_
  rintro e w4 ⟨v0,v1,rfl,h5,h6,h7⟩
  obtain ⟨Aq,cq,eq⟩:=Kd.R_slice h5
  subst eq
  obtain ⟨Ar,cr,er⟩:=Kd.R_slice h6
  subst er
  have H5:=Aside0.mk (And.intro h5 (And.intro h6 h7))
  clear h5 h6 h7
  go_wp2
  go_ret3
  exact ⟨_,_,rfl,Kd.R_mono (Kd.R_lower H5.out.1 HB.out.size) (fun _ _ => trivial),Kd.R_mono (Kd.R_lower H5.out.2.1 HB.out.size) (fun _ _ => trivial),below_then HB.out HB.out.size H5.out.2.2⟩
theorem product_Divide_zero (A1:Option Addr) (c1:Nat) (l1:List Int) (A2:Option Addr) (c2:Nat) (l2:List Int) (w:World)
    (hr1:Kd.C (Kd.int .u64) w A1 l1.length l1) (hc1:l1.length≤c1) (hr2:Kd.C (Kd.int .u64) w A2 l2.length l2) (hc2:l2.length≤c2)
    (h1:l1.all wd = true) (h2:l2.all wd = true) (h3:l1.length≤300) (h4:l2.length≤300) (hz:num 18446744073709551616 l2 = 0) :
    Calls Try.prog 79 #[.pointer none,.slice A1 l1.length c1,.slice A2 l2.length c2] w fun e w' => ∃ v0_ v1_:Value,e = .returned (.tuple #[v0_,v1_,.int .i64  1])∧Kd.R (Kd.int .u64) 24 w' w.heap.size (fun _ => True) v0_ []∧Kd.R (Kd.int .u64) 24 w' w.heap.size (fun _ => True) v1_ []∧Below w.heap.size w w':=by
  obtain ⟨w0,hw0⟩:∃ w0:World,w0 = ((w.alloc (.cells #[.pointer none] 71)).alloc (.cells #[.slice A1 l1.length c1] 23)).alloc (.cells #[.slice A2 l2.length c2] 23):=⟨_,rfl⟩
  obtain ⟨b0,b1,b2,hB⟩:=three_boxes w _ _ _ _ _ _ w0 hw0
  have HD:=Aside0.mk (show ∀ w1:World,Below w0.heap.size w0 w1→_ from fun w1 hw1 => Divide1_throw 1 A1 c1 l1 A2 c2 l2 (w.heap.size + 1) (w.heap.size + 1 + 1) w.heap.size _ _ w1 (blk_below b1 hw1) (blk_below b2 hw1) (asked_zero A1 c1 l1 A2 c2 l2 w1 (Kd.C_below hr1 (below_then hB hB.size hw1)) hc1 (Kd.C_below hr2 (below_then hB hB.size hw1)) hc2 (wd_all.1 h2) h3 h4 hz))
  have HL:=Aside0.mk (divided_throw _ _ _ w0 (fun _ => rfl) HD.out)
  have HB:=Aside0.mk hB
  clear b0 b1 b2 hB hr1 hr2 HD
  go_enter Try.func79,Try.ntmps79
  go_wp2_with fail
  rw [← hw0]
  refine HL.out.mono ?_
  rintro e w4 ⟨rfl,h7⟩
  have H7:=Aside0.mk h7
  clear h7
  go_wp2
  go_ret3
  exact ⟨_,_,rfl,Kd.R_nil _ _ _ _ _,Kd.R_nil _ _ _ _ _,below_then HB.out HB.out.size H7.out⟩
theorem product_Divide_long (A1:Option Addr) (c1:Nat) (l1:List Int) (A2:Option Addr) (c2:Nat) (l2:List Int) (w:World)
    (hr1:Kd.C (Kd.int .u64) w A1 l1.length l1) (hc1:l1.length≤c1) (hr2:Kd.C (Kd.int .u64) w A2 l2.length l2) (hc2:l2.length≤c2)
    (h3:l1.length≤1000000) (h4:l2.length≤1000000) (hl:300 < l1.length∨300 < l2.length) :
    Calls Try.prog 79 #[.pointer none,.slice A1 l1.length c1,.slice A2 l2.length c2] w fun e w' => ∃ v0_ v1_:Value,e = .returned (.tuple #[v0_,v1_,.int .i64  2])∧Kd.R (Kd.int .u64) 24 w' w.heap.size (fun _ => True) v0_ []∧Kd.R (Kd.int .u64) 24 w' w.heap.size (fun _ => True) v1_ []∧Below w.heap.size w w':=by
  obtain ⟨w0,hw0⟩:∃ w0:World,w0 = ((w.alloc (.cells #[.pointer none] 71)).alloc (.cells #[.slice A1 l1.length c1] 23)).alloc (.cells #[.slice A2 l2.length c2] 23):=⟨_,rfl⟩
  obtain ⟨b0,b1,b2,hB⟩:=three_boxes w _ _ _ _ _ _ w0 hw0
  have HD:=Aside0.mk (show ∀ w1:World,Below w0.heap.size w0 w1→_ from fun w1 hw1 => Divide1_throw 2 A1 c1 l1 A2 c2 l2 (w.heap.size + 1) (w.heap.size + 1 + 1) w.heap.size _ _ w1 (blk_below b1 hw1) (blk_below b2 hw1) (asked_long A1 c1 l1 A2 c2 l2 w1 (Kd.C_below hr1 (below_then hB hB.size hw1)) hc1 (Kd.C_below hr2 (below_then hB hB.size hw1)) hc2 hl))
  have HL:=Aside0.mk (divided_throw _ _ _ w0 (fun _ => rfl) HD.out)
  have HB:=Aside0.mk hB
  clear b0 b1 b2 hB hr1 hr2 HD
  go_enter Try.func79,Try.ntmps79
  go_wp2_with fail
  rw [← hw0]
  refine HL.out.mono ?_
  rintro e w4 ⟨rfl,h7⟩
  have H7:=Aside0.mk h7
  clear h7
  go_wp2
  go_ret3
  exact ⟨_,_,rfl,Kd.R_nil _ _ _ _ _,Kd.R_nil _ _ _ _ _,below_then HB.out HB.out.size H7.out⟩
end Go.Proofs.Ytonpekldcnankaa.X
end
section
namespace Go.Proofs.Ytonpekldcnankaa.X
open Go.RowKit Go.Proofs.YtonpekldcnankaaW.PrintWords Go.Proofs.YtonpekldcnankaaW.PrintLast Go.Proofs.YtonpekldcnankaaW.PrintMore
attribute [local go_sem] max2_int min2_int max_two min_two max_three min_three max_four min_four
set_option linter.unusedVariables false
set_option linter.unusedSimpArgs false
def product_Divide.f (l1 l2:List Int):Option (List Int × List Int × Int) :=
 if (l1.all Ma.wd = true∧l2.all Ma.wd = true)∧l1.length≤1000000∧l2.length≤1000000 then
  if 300 < l1.length∨300 < l2.length then some ([],[],2)
  else if Ma.num 18446744073709551616 l2 = 0 then some ([],[],1)
  else some (Ma.dgs 18446744073709551616 l1.length (Ma.num 18446744073709551616 l1 / Ma.num 18446744073709551616 l2),Ma.dgs 18446744073709551616 l2.length (Ma.num 18446744073709551616 l1 % Ma.num 18446744073709551616 l2),0)
 else none
theorem product_Divide.calls (A1:Option Addr) (c1:Nat) (l1:List Int) (A2:Option Addr) (c2:Nat) (l2:List Int) (r1 r2:List Int) (r3:Int) (w:World) (hr1:Kd.C (Kd.int .u64) w A1 l1.length l1) (hc1:l1.length≤c1) (hr2:Kd.C (Kd.int .u64) w A2 l2.length l2) (hc2:l2.length≤c2) (h:product_Divide.f l1 l2 = some (r1,r2,r3)) :
  Calls Try.prog 79 #[.pointer none,.slice A1 l1.length c1,.slice A2 l2.length c2] w fun e w' => ∃ v0_ v1_:Value,e = .returned (.tuple #[v0_,v1_,.int .i64 r3])∧Kd.R (Kd.int .u64) 24 w' w.heap.size (fun _ => True) v0_ r1∧Kd.R (Kd.int .u64) 24 w' w.heap.size (fun _ => True) v1_ r2∧Below w.heap.size w w':=by
 unfold product_Divide.f at h
 split at h
 ·
  rename_i hc
  obtain ⟨⟨h1,h2⟩,h3,h4⟩:=hc
  split at h
  ·
   rename_i hl
   simp only [Option.some.injEq,Prod.mk.injEq] at h
   obtain ⟨rfl,rfl,rfl⟩:=h
   exact product_Divide_long A1 c1 l1 A2 c2 l2 w hr1 hc1 hr2 hc2 h3 h4 hl
  ·
   rename_i hl
   split at h
   ·
    rename_i hz
    simp only [Option.some.injEq,Prod.mk.injEq] at h
    obtain ⟨rfl,rfl,rfl⟩:=h
    exact product_Divide_zero A1 c1 l1 A2 c2 l2 w hr1 hc1 hr2 hc2 h1 h2 (by omega) (by omega) hz
   ·
    rename_i hz
    simp only [Option.some.injEq,Prod.mk.injEq] at h
    obtain ⟨rfl,rfl,rfl⟩:=h
    exact product_Divide_ok A1 c1 l1 A2 c2 l2 w hr1 hc1 hr2 hc2 h1 h2 (by omega) (by omega) hz
 ·
  exact absurd h (by simp)
end Go.Proofs.Ytonpekldcnankaa.X
end
section
namespace Go.Proofs.Ytonpekldcnankaa.X
open Go.RowKit Go.Proofs.YtonpekldcnankaaW.PrintWords Go.Proofs.YtonpekldcnankaaW.PrintLast Go.Proofs.Ytonpekldcnankaa.Ma
set_option linter.unusedVariables false
set_option linter.unusedSimpArgs false
def divR (a m:List Int):List Int × List Int × Int :=
  if 300 < a.length∨300 < m.length then ([],[],2)
  else if nW m = 0 then ([],[],1)
  else (wds a.length (nW a / nW m),wds m.length (nW a % nW m),0)
theorem divR_ok {a m:List Int} (ha:a.length≤300) (hm:m.length≤300) (hz:nW m≠0):divR a m = (wds a.length (nW a / nW m),wds m.length (nW a % nW m),0):=by
  unfold divR
  rw [if_neg (by omega),if_neg hz]
theorem sp_Divide {a m:List Int} (ha:Wd a) (hm:Wd m) (la:a.length≤1000000) (lm:m.length≤1000000):product_Divide.f a m = some (divR a m):=by
  unfold product_Divide.f divR
  rw [if_pos ⟨⟨wd_all.2 ha,wd_all.2 hm⟩,la,lm⟩]
  show (if _ then _ else if nW m = 0 then _ else _) = _
  split
  · rfl
  · split
    · rfl
    · rfl
end Go.Proofs.Ytonpekldcnankaa.X
end
