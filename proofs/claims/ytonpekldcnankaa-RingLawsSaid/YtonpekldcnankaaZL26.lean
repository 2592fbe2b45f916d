/- Texts of the walk and of the plain laws, laid together by a program: Rd, Ra, X17, X24, Rs, X27. -/
import Derived.Test.YtonpekldcnankaaZL25
set_option maxHeartbeats 8000000
set_option maxRecDepth 100000
section
namespace Go.Proofs.Ytonpekldcnankaa.X
open Go.RowKit Go.Proofs.YtonpekldcnankaaW.PrintWords Go.Proofs.YtonpekldcnankaaW.PrintLast Go.Proofs.YtonpekldcnankaaW.PrintMore Go.Proofs.Ytonpekldcnankaa.Ma
set_option linter.unusedVariables false
set_option linter.unusedSimpArgs false
theorem ring_done_yes (k:Nat) (A0:Option Addr) (c0:Nat) (m0:List Int) (m1:Int) (A2:Option Addr) (c2:Nat) (m2:List Int) (fc:FuncId) (ca:Array Value) (AL:Option Addr) (cL:Nat) (ls:List (List Int)) (Q:World→Value→World→Prop) (w:World)
    (h0:Kd.C (Kd.int .u64) w A0 m0.length m0) (hc0:m0.length≤c0) (h2:Kd.C (Kd.int .u64) w A2 m2.length m2) (hc2:m2.length≤c2) (hL:Kd.C (Kd.slice 24 (Kd.int .u64)) w AL ls.length ls) (hln:ls.length≤1000) (hk:mont_Check.f k m0 m1 m2 = some true)
    (hm:∀ i:Nat,i < ls.length→(rd_L2 ls (i:Int)).length = m0.length∧limbs_Less.f (rd_L2 ls (i:Int)) m0 = some 1) (hcf:∀ w:World,(callFunc fc ca).run Try.prog w = .ok (.enter fc ca) w)
    (hd:∀ w1:World,Below w.heap.size w w1→Calls Try.prog fc ca w1 fun e w' => ∃ v,e = .returned v∧Q w1 v w') :
    Calls Try.prog 63 #[.agg #[.slice A0 m0.length c0,.int .u64 m1,.slice A2 m2.length c2],.func (.func fc) #[] ca,.slice AL ls.length cL] w fun e w' => ∃ w1 v,Below w.heap.size w w1∧e = .returned (.tuple #[v,.int .i64 0])∧Q w1 v w':=by
  have hu59:=Try.underlying26
  have H0:=Aside0.mk h0
  have H2:=Aside0.mk h2
  have HL:=Aside0.mk hL
  have HK:=Aside0.mk hk
  have HM:=Aside0.mk hm
  have HD:=Aside0.mk hd
  clear h0 h2 hL hk hm hd
  go_enter Try.func63,Try.ntmps63
  go_upto_region 1 with ((with_reducible refine gate_dst (N:=3) rfl ?_);refine box_event ?hg (N:=3) ?hd (cs:=#[.slice A0 m0.length c0,.int .u64 m1,.slice A2 m2.length c2]) (t:=26) ?hr ?_;(case hd => rfl);(case hg => rfl);(case hr => first | (go_simp;done) | (go_simp;rfl));intro gb hgb w3 hbox hb;have HX:=Aside0.mk hbox;have HB3:=Aside0.mk hb;clear hbox hb)
  subst hgb
  have HZ:=Aside0.mk (fun (W:World) (hW:Below w3.heap.size w3 W) => And.intro ((blk_cell (blk_below HX.out hW) 0).trans rfl) (And.intro ((blk_cell (blk_below HX.out hW) 1).trans rfl) ((blk_cell (blk_below HX.out hW) 2).trans rfl)))
  obtain ⟨z0,z1,z2⟩:=HZ.out _ (Below.refl _ _)
  go_wp2_with (go_at_call 78;(with_reducible refine (mont_Check.calls k A0 c0 m0 m1 A2 c2 m2 true _ (Kd.C_below H0.out HB3.out) hc0 (Kd.C_below H2.out HB3.out) hc2 HK.out).mono ?_);rintro e w4 ⟨rfl,hb4⟩;have HB4:=Aside0.mk hb4;clear hb4)
  go_loopg [15] (ls.length + 1) (fun q v15 wr => ∃ i:Nat,v15 = .int .i64 (i:Int)∧Aside0 (ls.length < q + i)∧i≤ls.length∧Aside0 (Below w3.heap.size w3 wr))
  case atStart => exact ⟨0,rfl,⟨by omega⟩,Nat.zero_le _,HB4⟩
  case round =>
    clear z0 z1 z2
    obtain ⟨i,rfl,hq,hil,HBr⟩:=hrel
    obtain ⟨ko,hko⟩:∃ ko,gk = ko + 1:=⟨gk - 1,by have:=hq.out;omega⟩
    subst hko
    obtain ⟨z0,z1,z2⟩:=HZ.out _ HBr.out
    have HBw:=Aside0.mk (below_then HB3.out HB3.out.size HBr.out)
    by_cases hi:i < ls.length
    · obtain ⟨m1',m2'⟩:=HM.out i hi
      have HML:=Aside0.mk m2'
      obtain ⟨ad,Ar,cr,er,hx,hl,hr⟩:=at_L2 HL.out (i:Int) (by omega) (by omega)
      cases er
      replace hx:=(HBw.out.cell (World.block_lt_of_cell? w _ hx)).trans hx
      rw [Int.toNat_natCast] at hx
      rw [m1'] at hx hl hr
      have HR:=Aside0.mk hr
      have HRL:=Aside0.mk m1'
      clear hr m2' m1'
      have d1:decide ((i:Int) < (ls.length:Int)) = true:=decide_eq_true (by omega)
      have d1c:decide (i < ls.length) = true:=decide_eq_true hi
      have q2:(i:Int) < (ls.length:Int):=by omega
      have p1:IntKind.i64.wrap ((i:Int) + 1) = ((i + 1:Nat):Int):=by rw [i64_w,w64 (by omega) (by omega)];omega
      obtain ⟨i2,hi2⟩:∃ i2:Nat,i2 = i + 1:=⟨_,rfl⟩
      rw [← hi2] at p1
      have HI2:=Aside0.mk hi2
      clear hi2
      have hcall:=Aside0.mk (fun (W:World) (hW:Below w.heap.size w W) => by
        have:=limbs_Less.calls Ar cr (rd_L2 ls (i:Int)) A0 c0 m0 1 W (by rw [HRL.out];exact Kd.C_below HR.out hW) (by rw [HRL.out];exact hl) (Kd.C_below H0.out hW) hc0 HML.out
        rw [HRL.out] at this
        exact this)
      go_wp2_with (go_at_call 103;(with_reducible refine (hcall.out _ HBw.out).mono ?_);rintro e w5 ⟨rfl,hb5⟩;have HB5:=Aside0.mk hb5;clear hb5)
      go_roundg ko
      case measure => omega
      case rel => exact ⟨i2,rfl,⟨by have:=hq.out;have:=HI2.out;omega⟩,by have:=HI2.out;omega,⟨below_then HBr.out HBr.out.size HB5.out⟩⟩
    · have d1:decide ((i:Int) < (ls.length:Int)) = false:=decide_eq_false (by omega)
      have d1c:decide (i < ls.length) = false:=decide_eq_false hi
      go_wp2_with fail
      refine (HD.out _ HBw.out).mono ?_
      rintro e w5 ⟨v,rfl,hq5⟩
      have HQ:=Aside0.mk hq5
      clear hq5
      go_wp2
      go_ret2
      exact ⟨_,_,HBw.out,rfl,HQ.out⟩
theorem ring_done_no (k:Nat) (A0:Option Addr) (c0:Nat) (m0:List Int) (m1:Int) (A2:Option Addr) (c2:Nat) (m2:List Int) (fv:Value) (AL:Option Addr) (cL:Nat) (ls:List (List Int)) (chk:Bool) (w:World)
    (h0:Kd.C (Kd.int .u64) w A0 m0.length m0) (hc0:m0.length≤c0) (h2:Kd.C (Kd.int .u64) w A2 m2.length m2) (hc2:m2.length≤c2) (hL:Kd.C (Kd.slice 24 (Kd.int .u64)) w AL ls.length ls) (hln:ls.length≤1000) (hk:mont_Check.f k m0 m1 m2 = some chk)
    (hm:∀ i:Nat,i < ls.length→(rd_L2 ls (i:Int)).length = m0.length→∃ b:Int,(b = 0∨b = 1)∧limbs_Less.f (rd_L2 ls (i:Int)) m0 = some b)
    (hno:chk = true→∃ i:Nat,i < ls.length∧¬ ((rd_L2 ls (i:Int)).length = m0.length∧limbs_Less.f (rd_L2 ls (i:Int)) m0 = some 1)) :
    Calls Try.prog 63 #[.agg #[.slice A0 m0.length c0,.int .u64 m1,.slice A2 m2.length c2],fv,.slice AL ls.length cL] w fun e w' => e = .returned (.tuple #[.slice none 0 0,.int .i64 1])∧Below w.heap.size w w':=by
  have hu59:=Try.underlying26
  have H0:=Aside0.mk h0
  have H2:=Aside0.mk h2
  have HL:=Aside0.mk hL
  have HK:=Aside0.mk hk
  have HM:=Aside0.mk hm
  have HN:=Aside0.mk hno
  clear h0 h2 hL hk hm hno
  go_enter Try.func63,Try.ntmps63
  go_upto_region 1 with ((with_reducible refine gate_dst (N:=3) rfl ?_);refine box_event ?hg (N:=3) ?hd (cs:=#[.slice A0 m0.length c0,.int .u64 m1,.slice A2 m2.length c2]) (t:=26) ?hr ?_;(case hd => rfl);(case hg => rfl);(case hr => first | (go_simp;done) | (go_simp;rfl));intro gb hgb w3 hbox hb;have HX:=Aside0.mk hbox;have HB3:=Aside0.mk hb;clear hbox hb)
  subst hgb
  have HZ:=Aside0.mk (fun (W:World) (hW:Below w3.heap.size w3 W) => And.intro ((blk_cell (blk_below HX.out hW) 0).trans rfl) (And.intro ((blk_cell (blk_below HX.out hW) 1).trans rfl) ((blk_cell (blk_below HX.out hW) 2).trans rfl)))
  obtain ⟨z0,z1,z2⟩:=HZ.out _ (Below.refl _ _)
  cases chk with
  | false =>
    go_wp2_with (go_at_call 78;(with_reducible refine (mont_Check.calls k A0 c0 m0 m1 A2 c2 m2 false _ (Kd.C_below H0.out HB3.out) hc0 (Kd.C_below H2.out HB3.out) hc2 HK.out).mono ?_);rintro e w4 ⟨rfl,hb4⟩;have HB4:=Aside0.mk hb4;clear hb4)
    go_ret2
    exact ⟨rfl,below_then HB3.out HB3.out.size HB4.out⟩
  | true =>
  go_wp2_with (go_at_call 78;(with_reducible refine (mont_Check.calls k A0 c0 m0 m1 A2 c2 m2 true _ (Kd.C_below H0.out HB3.out) hc0 (Kd.C_below H2.out HB3.out) hc2 HK.out).mono ?_);rintro e w4 ⟨rfl,hb4⟩;have HB4:=Aside0.mk hb4;clear hb4)
  go_loopg [15] (ls.length + 1) (fun q v15 wr => ∃ i:Nat,v15 = .int .i64 (i:Int)∧Aside0 (ls.length < q + i)∧i≤ls.length∧Aside0 (∀ j,j < i→(rd_L2 ls (j:Int)).length = m0.length∧limbs_Less.f (rd_L2 ls (j:Int)) m0 = some 1)∧Aside0 (Below w3.heap.size w3 wr))
  case atStart => exact ⟨0,rfl,⟨by omega⟩,Nat.zero_le _,⟨fun j hj => absurd hj (by omega)⟩,HB4⟩
  case round =>
    clear z0 z1 z2
    obtain ⟨i,rfl,hq,hil,hall,HBr⟩:=hrel
    obtain ⟨ko,hko⟩:∃ ko,gk = ko + 1:=⟨gk - 1,by have:=hq.out;omega⟩
    subst hko
    obtain ⟨z0,z1,z2⟩:=HZ.out _ HBr.out
    have HBw:=Aside0.mk (below_then HB3.out HB3.out.size HBr.out)
    by_cases hi:i < ls.length
    · obtain ⟨ad,Ar,cr,er,hx,hl,hr⟩:=at_L2 HL.out (i:Int) (by omega) (by omega)
      cases er
      replace hx:=(HBw.out.cell (World.block_lt_of_cell? w _ hx)).trans hx
      rw [Int.toNat_natCast] at hx
      have HR:=Aside0.mk hr
      clear hr
      have d1:decide ((i:Int) < (ls.length:Int)) = true:=decide_eq_true (by omega)
      have d1c:decide (i < ls.length) = true:=decide_eq_true hi
      have q2:(i:Int) < (ls.length:Int):=by omega
      by_cases hlen:(rd_L2 ls (i:Int)).length = m0.length
      · obtain ⟨b,hb01,hb⟩:=HM.out i hi hlen
        rw [hlen] at hx hl
        have HRL:=Aside0.mk hlen
        have HB0:=Aside0.mk hb
        have HB01:=Aside0.mk hb01
        clear hlen hb hb01
        have hcall:=Aside0.mk (fun (W:World) (hW:Below w.heap.size w W) => by
          have:=limbs_Less.calls Ar cr (rd_L2 ls (i:Int)) A0 c0 m0 b W (Kd.C_below HR.out hW) (by rw [HRL.out];exact hl) (Kd.C_below H0.out hW) hc0 HB0.out
          rw [HRL.out] at this
          exact this)
        rcases HB01.out with rfl | rfl
        · go_wp2_with (go_at_call 103;(with_reducible refine (hcall.out _ HBw.out).mono ?_);rintro e w5 ⟨rfl,hb5⟩;have HB5:=Aside0.mk hb5;clear hb5)
          go_ret2
          exact ⟨rfl,below_then HBw.out HBw.out.size HB5.out⟩
        · have p1:IntKind.i64.wrap ((i:Int) + 1) = ((i + 1:Nat):Int):=by rw [i64_w,w64 (by omega) (by omega)];omega
          obtain ⟨i2,hi2⟩:∃ i2:Nat,i2 = i + 1:=⟨_,rfl⟩
          rw [← hi2] at p1
          have HI2:=Aside0.mk hi2
          clear hi2
          go_wp2_with (go_at_call 103;(with_reducible refine (hcall.out _ HBw.out).mono ?_);rintro e w5 ⟨rfl,hb5⟩;have HB5:=Aside0.mk hb5;clear hb5)
          go_roundg ko
          case measure => omega
          case rel =>
            refine ⟨i2,rfl,⟨by have:=hq.out;have:=HI2.out;omega⟩,by have:=HI2.out;omega,⟨fun j hj => ?_⟩,⟨below_then HBr.out HBr.out.size HB5.out⟩⟩
            rcases Nat.lt_or_ge j i with g | g
            · exact hall.out j g
            · have e:j = i:=by have:=HI2.out;omega
              subst e
              exact ⟨HRL.out,HB0.out⟩
      · have c0':(((rd_L2 ls (i:Int)).length:Int) == (m0.length:Int)) = false:=beq_eq_false_iff_ne.2 (by omega)
        have c1':(((rd_L2 ls (i:Int)).length:Int) != (m0.length:Int)) = true:=bne_iff_ne.2 (by omega)
        have c2':((rd_L2 ls (i:Int)).length == m0.length) = false:=beq_eq_false_iff_ne.2 hlen
        have c3':decide ((rd_L2 ls (i:Int)).length = m0.length) = false:=decide_eq_false hlen
        clear hlen
        go_wp2
        go_ret2
        exact ⟨rfl,HBw.out⟩
    · exfalso
      obtain ⟨j,hj,hj2⟩:=HN.out (by simp)
      exact hj2 (hall.out j (by omega))
end Go.Proofs.Ytonpekldcnankaa.X
end
section
namespace Go.Proofs.Ytonpekldcnankaa.X
open Go.RowKit Go.Proofs.YtonpekldcnankaaW.PrintWords Go.Proofs.YtonpekldcnankaaW.PrintLast Go.Proofs.YtonpekldcnankaaW.PrintMore Go.Proofs.Ytonpekldcnankaa.Ma
set_option linter.unusedVariables false
set_option linter.unusedSimpArgs false
theorem sp_ring_Plus {m0 la lb:List Int} (m1:Int) (m2:List Int) (hm:Wd m0) (ha:Wd la) (hb:Wd lb) (ma:la.length = m0.length∧nW la < nW m0) (mb:lb.length = m0.length∧nW lb < nW m0) (hn:m0.length≤300) :
    ring_Plus.f m0 m1 m2 la lb = some (wds m0.length ((nW la + nW lb) % nW m0)):=by
  obtain ⟨less,low,f,g1,g2,g3,g4,g5,g6⟩:=dq_round hm hn (show nW la + nW lb < 2 * nW m0 by omega)
  unfold ring_Plus.f
  rw [sp_limbs_Add ha hb (by omega),Option.bind_some,ma.1,mb.1,Nat.max_self]
  simp only []
  rw [g1,Option.bind_some]
  simp only []
  rw [g4,g5]
  rfl
theorem ring_Add1_ok (A0:Option Addr) (c0:Nat) (m0:List Int) (m1:Int) (A2:Option Addr) (c2:Nat) (m2:List Int) (Aa:Option Addr) (ca:Nat) (la:List Int) (Ab:Option Addr) (cb:Nat) (lb:List Int) (bt bm ba bb:Nat) (P:Value→World→Prop) (w:World)
    (ht:w.heap[bt]? = some (.cells #[.pointer none] 71 (0,0))) (hm:w.heap[bm]? = some (.cells #[.slice A0 m0.length c0,.int .u64 m1,.slice A2 m2.length c2] 26 (0,0))) (ha:w.heap[ba]? = some (.cells #[.slice Aa la.length ca] 23 (0,0))) (hb:w.heap[bb]? = some (.cells #[.slice Ab lb.length cb] 23 (0,0)))
    (hd:Calls Try.prog 70 #[.pointer none,.agg #[.slice A0 m0.length c0,.int .u64 m1,.slice A2 m2.length c2],.slice Aa la.length ca,.slice Ab lb.length cb] w fun e w' => ∃ v,e = .returned v∧P v w') :
    Calls Try.prog 69 #[.pointer (some ⟨bt,0,none⟩),.pointer (some ⟨bm,0,none⟩),.pointer (some ⟨ba,0,none⟩),.pointer (some ⟨bb,0,none⟩)] w fun e w' => ∃ v,e = .returned v∧P v w':=by
  have hu59:=Try.underlying26
  have HD:=Aside0.mk hd
  have zt:=cell_of_one ht
  have za:=cell_of_one ha
  have zb:=cell_of_one hb
  have z0:=(blk_cell hm 0).trans rfl
  have z1:=(blk_cell hm 1).trans rfl
  have z2:=(blk_cell hm 2).trans rfl
  clear hd ht hm ha hb
  go_enter Try.func69,Try.ntmps69
  go_wp2_with (go_at_call 70;(with_reducible refine HD.out.mono ?_);rintro e w5 ⟨v,rfl,hp⟩;have HP:=Aside0.mk hp;clear hp)
  go_ret
  exact ⟨_,rfl,HP.out⟩
theorem ring_Add_enter (A0:Option Addr) (c0:Nat) (m0:List Int) (m1:Int) (A2:Option Addr) (c2:Nat) (m2:List Int) (Aa:Option Addr) (ca:Nat) (la:List Int) (Ab:Option Addr) (cb:Nat) (lb:List Int) (r1:List Int) (r2:Int) (w:World)
    (hD:∀ (W:World) (gl:Nat),Below w.heap.size w W→(W.heap[w.heap.size]? = some (.cells #[.pointer none] 71 (0,0))∧W.heap[w.heap.size + 1]? = some (.cells #[.slice A0 m0.length c0,.int .u64 m1,.slice A2 m2.length c2] 26 (0,0))∧W.heap[w.heap.size + 1 + 1]? = some (.cells #[.slice Aa la.length ca] 23 (0,0))∧W.heap[w.heap.size + 1 + 1 + 1]? = some (.cells #[.slice Ab lb.length cb] 23 (0,0))) →
      W.heap[gl]? = some (.cells #[.slice Aa la.length ca,.slice Ab lb.length cb] 23 (0,0))→Calls Try.prog 63 #[.agg #[.slice A0 m0.length c0,.int .u64 m1,.slice A2 m2.length c2],.func (.func 69) #[] #[.pointer (some ⟨w.heap.size,0,none⟩),.pointer (some ⟨w.heap.size + 1,0,none⟩),.pointer (some ⟨w.heap.size + 1 + 1,0,none⟩),.pointer (some ⟨w.heap.size + 1 + 1 + 1,0,none⟩)],.slice (some ⟨gl,0,none⟩) 2 2] W fun e w' => ∃ v,e = .returned (.tuple #[v,.int .i64 r2])∧Kd.R (Kd.int .u64) 24 w' w.heap.size (fun _ => True) v r1∧Below w.heap.size w w') :
    Calls Try.prog 23 #[.pointer none,.agg #[.slice A0 m0.length c0,.int .u64 m1,.slice A2 m2.length c2],.slice Aa la.length ca,.slice Ab lb.length cb] w fun e w' => ∃ v,e = .returned (.tuple #[v,.int .i64 r2])∧Kd.R (Kd.int .u64) 24 w' w.heap.size (fun _ => True) v r1∧Below w.heap.size w w':=by
  obtain ⟨w0,hw0⟩:∃ w0:World,w0 = (((w.alloc (.cells #[.pointer none] 71)).alloc (.cells #[.slice A0 m0.length c0,.int .u64 m1,.slice A2 m2.length c2] 26)).alloc (.cells #[.slice Aa la.length ca] 23)).alloc (.cells #[.slice Ab lb.length cb] 23):=⟨_,rfl⟩
  obtain ⟨hb,hB,hsz⟩:=rg_boxes4 w _ _ _ _ _ _ _ _ w0 hw0
  have hu59:=Try.underlying26
  have hl:=blk_new w0 (Obj.cells #[.slice Aa la.length ca,.slice Ab lb.length cb] 23)
  rw [hsz] at hl
  have hc:=hD (w0.alloc (Obj.cells #[.slice Aa la.length ca,.slice Ab lb.length cb] 23)) (w.heap.size + 1 + 1 + 1 + 1) (below_alloc hB _) ⟨blk_alloc hb.1 _,blk_alloc hb.2.1 _,blk_alloc hb.2.2.1 _,blk_alloc hb.2.2.2 _⟩ hl
  clear hD hb hB hsz hl
  subst hw0
  have HC:=Aside0.mk hc
  clear hc
  go_enter Try.func23,Try.ntmps23
  go_wp2_with (go_at_call 63;(with_reducible refine HC.out.mono ?_);rintro e w5 ⟨v,rfl,hp⟩;have HP:=Aside0.mk hp;clear hp)
  go_ret2
  exact ⟨_,rfl,HP.out⟩
theorem ring_Add_walk (k:Nat) (A0:Option Addr) (c0:Nat) (m0:List Int) (m1:Int) (A2:Option Addr) (c2:Nat) (m2:List Int) (Aa:Option Addr) (ca:Nat) (la:List Int) (Ab:Option Addr) (cb:Nat) (lb:List Int) (r1:List Int) (r2:Int) (w:World) (hr0:Kd.C (Kd.int .u64) w A0 m0.length m0) (hc0:m0.length≤c0) (hr2:Kd.C (Kd.int .u64) w A2 m2.length m2) (hc2:m2.length≤c2) (hra:Kd.C (Kd.int .u64) w Aa la.length la) (hca:la.length≤ca) (hrb:Kd.C (Kd.int .u64) w Ab lb.length lb) (hcb:lb.length≤cb)
    (h:Rg.out (mont_Check.f k m0 m1 m2) m0 [la,lb] (dgs 18446744073709551616 m0.length ((num 18446744073709551616 la + num 18446744073709551616 lb) % num 18446744073709551616 m0)) = some (r1,r2)) :
    Calls Try.prog 23 #[.pointer none,.agg #[.slice A0 m0.length c0,.int .u64 m1,.slice A2 m2.length c2],.slice Aa la.length ca,.slice Ab lb.length cb] w fun e w' => ∃ v,e = .returned (.tuple #[v,.int .i64 r2])∧Kd.R (Kd.int .u64) 24 w' w.heap.size (fun _ => True) v r1∧Below w.heap.size w w':=by
  unfold Rg.out at h
  split at h
  · rename_i hok0
    have hok:=Rg.ok_iff.1 hok0
    have hWa:Wd la:=hok.1.2 _ (by simp)
    have hWb:Wd lb:=hok.1.2 _ (by simp)
    cases e:mont_Check.f k m0 m1 m2 with
    | none => rw [e] at h;exact absurd h (by simp)
    | some chk =>
      rw [e] at h
      simp only [Option.bind_some] at h
      refine ring_Add_enter A0 c0 m0 m1 A2 c2 m2 Aa ca la Ab cb lb r1 r2 w fun W gl hW hb hl => ?_
      have hC:=rg_C2 hl (Kd.C_below hra hW) hca (Kd.C_below hrb hW) hcb
      split at h
      · rename_i hy
        simp only [Option.some.injEq,Prod.mk.injEq] at h
        obtain ⟨rfl,rfl⟩:=h
        obtain ⟨rfl,hmem⟩:=hy
        have hmm:=Rg.mem_iff.1 hmem
        refine (ring_done_yes k A0 c0 m0 m1 A2 c2 m2 69 _ _ _ [la,lb] (fun w1 v w' => Kd.R (Kd.int .u64) 24 w' w1.heap.size (fun _ => True) v (dgs 18446744073709551616 m0.length ((num 18446744073709551616 la + num 18446744073709551616 lb) % num 18446744073709551616 m0))∧Below w1.heap.size w1 w') W (Kd.C_below hr0 hW) hc0 (Kd.C_below hr2 hW) hc2 hC (by simp) e (Rg.at_mem hok0 hmem) (fun _ => rfl) (fun w1 hw1 => ?_)).mono ?_
        · have hW1:=below_then hW hW.size hw1
          refine ring_Add1_ok A0 c0 m0 m1 A2 c2 m2 Aa ca la Ab cb lb _ _ _ _ _ w1 (blk_below hb.1 hw1) (blk_below hb.2.1 hw1) (blk_below hb.2.2.1 hw1) (blk_below hb.2.2.2 hw1) ?_
          have hval:=sp_ring_Plus m1 m2 hok.1.1 hWa hWb (hmm _ (by simp)) (hmm _ (by simp)) hok.2
          exact ring_Plus.calls A0 c0 m0 m1 A2 c2 m2 Aa ca la Ab cb lb _ w1 (Kd.C_below hr0 hW1) hc0 (Kd.C_below hr2 hW1) hc2 (Kd.C_below hra hW1) hca (Kd.C_below hrb hW1) hcb hval
        · rintro e w' ⟨w1,v,g1,rfl,g2,g3⟩
          have hW1:=below_then hW hW.size g1
          exact ⟨v,rfl,Kd.R_lower g2 hW1.size,below_then hW1 hW1.size g3⟩
      · rename_i hy
        simp only [Option.some.injEq,Prod.mk.injEq] at h
        obtain ⟨rfl,rfl⟩:=h
        refine (ring_done_no k A0 c0 m0 m1 A2 c2 m2 _ _ _ [la,lb] chk W (Kd.C_below hr0 hW) hc0 (Kd.C_below hr2 hW) hc2 hC (by simp) e (Rg.at_any hok0) (fun hc => Rg.at_no hok0 (fun hm => hy ⟨hc,hm⟩))).mono ?_
        rintro e w' ⟨rfl,g⟩
        exact ⟨_,rfl,Kd.R_nil _ _ _ _ _,below_then hW hW.size g⟩
  · exact absurd h (by simp)
end Go.Proofs.Ytonpekldcnankaa.X
end
section
namespace Go.Proofs.Ytonpekldcnankaa.X
open Go.RowKit Go.Proofs.YtonpekldcnankaaW.PrintWords Go.Proofs.YtonpekldcnankaaW.PrintLast Go.Proofs.YtonpekldcnankaaW.PrintMore
attribute [local go_sem] max2_int min2_int max_two min_two max_three min_three max_four min_four
set_option linter.unusedVariables false
set_option linter.unusedSimpArgs false
def ring_Add.f (k:Nat) (m0:List Int) (m1:Int) (m2:List Int) (a b:List Int):Option (List Int × Int) :=
 Rg.out (mont_Check.f k m0 m1 m2) m0 [a,b] (Ma.dgs 18446744073709551616 m0.length ((Ma.num 18446744073709551616 a + Ma.num 18446744073709551616 b) % Ma.num 18446744073709551616 m0))
theorem ring_Add.mono:∀ a0 a1 a2 a3 a4 k,LeO (ring_Add.f k a0 a1 a2 a3 a4) (ring_Add.f (k + 1) a0 a1 a2 a3 a4):=fun _ _ _ _ _ _ => Rg.gate (mont_Check.mono _ _ _ _)
theorem ring_Add.calls (k:Nat) (A1_0:Option Addr) (c1_0:Nat) (l1_0:List Int) (a1_1:Int) (A1_2:Option Addr) (c1_2:Nat) (l1_2:List Int) (A2:Option Addr) (c2:Nat) (l2:List Int) (A3:Option Addr) (c3:Nat) (l3:List Int) (r1:List Int) (r2:Int) (w:World) (hr1_0:Kd.C (Kd.int .u64) w A1_0 l1_0.length l1_0) (hc1_0:l1_0.length≤c1_0) (hr1_2:Kd.C (Kd.int .u64) w A1_2 l1_2.length l1_2) (hc1_2:l1_2.length≤c1_2) (hr2:Kd.C (Kd.int .u64) w A2 l2.length l2) (hc2:l2.length≤c2) (hr3:Kd.C (Kd.int .u64) w A3 l3.length l3) (hc3:l3.length≤c3) (h:ring_Add.f k l1_0 a1_1 l1_2 l2 l3 = some (r1,r2)) :
  Calls Try.prog 23 #[.pointer none,.agg #[.slice A1_0 l1_0.length c1_0,.int .u64 a1_1,.slice A1_2 l1_2.length c1_2],.slice A2 l2.length c2,.slice A3 l3.length c3] w fun e w' => ∃ v0_:Value,e = .returned (.tuple #[v0_,.int .i64 r2])∧Kd.R (Kd.int .u64) 24 w' w.heap.size (fun _ => True) v0_ r1∧Below w.heap.size w w' :=
 ring_Add_walk k A1_0 c1_0 l1_0 a1_1 A1_2 c1_2 l1_2 A2 c2 l2 A3 c3 l3 r1 r2 w hr1_0 hc1_0 hr1_2 hc1_2 hr2 hc2 hr3 hc3 h
end Go.Proofs.Ytonpekldcnankaa.X
end
section
namespace Go.Proofs.Ytonpekldcnankaa.X
open Go.RowKit Go.Proofs.YtonpekldcnankaaW.PrintWords Go.Proofs.YtonpekldcnankaaW.PrintLast Go.Proofs.YtonpekldcnankaaW.PrintMore
attribute [local go_sem] max2_int min2_int max_two min_two max_three min_three max_four min_four
set_option linter.unusedVariables false
set_option linter.unusedSimpArgs false
def sconcelaw07_sum.f (k:Nat) (l0_0:List Int) (a0_1:Int) (l0_2:List Int) (l1:List Int) (l2:List Int):Option (List Int):=(ring_Add.f k l0_0 a0_1 l0_2 l1 l2).bind fun bt391 => (some bt391.1)
theorem sconcelaw07_sum.calls (k:Nat) (A0_0:Option Addr) (c0_0:Nat) (l0_0:List Int) (a0_1:Int) (A0_2:Option Addr) (c0_2:Nat) (l0_2:List Int) (A1:Option Addr) (c1:Nat) (l1:List Int) (A2:Option Addr) (c2:Nat) (l2:List Int) (r:List Int) (w:World) (hr0_0:Kd.C (Kd.int .u64) w A0_0 l0_0.length l0_0) (hc0_0:l0_0.length≤c0_0) (hr0_2:Kd.C (Kd.int .u64) w A0_2 l0_2.length l0_2) (hc0_2:l0_2.length≤c0_2) (hr1:Kd.C (Kd.int .u64) w A1 l1.length l1) (hc1:l1.length≤c1) (hr2:Kd.C (Kd.int .u64) w A2 l2.length l2) (hc2:l2.length≤c2) (h:sconcelaw07_sum.f k l0_0 a0_1 l0_2 l1 l2 = some r) :
  Calls Try.prog 22 #[.agg #[.slice A0_0 l0_0.length c0_0,.int .u64 a0_1,.slice A0_2 l0_2.length c0_2],.slice A1 l1.length c1,.slice A2 l2.length c2] w fun e w' => ∃ v0_:Value,e = .returned (v0_)∧Kd.R (Kd.int .u64) 24 w' w.heap.size (fun _ => True) v0_ r∧Below w.heap.size w w':=by
 have hu26:=Try.underlying26
 have HR0_0:=Aside0.mk hr0_0
 have HC0_0:=Aside0.mk hc0_0
 clear hr0_0 hc0_0
 have HR0_2:=Aside0.mk hr0_2
 have HC0_2:=Aside0.mk hc0_2
 clear hr0_2 hc0_2
 have HR1:=Aside0.mk hr1
 have HC1:=Aside0.mk hc1
 clear hr1 hc1
 have HR2:=Aside0.mk hr2
 have HC2:=Aside0.mk hc2
 clear hr2 hc2
 have HB:=Aside0.mk (Below.refl w.heap.size w)
 have H:((ring_Add.f k l0_0 a0_1 l0_2 l1 l2).bind fun bt391 => (some bt391.1)) = some r:=h
 clear h
 replace H:=Option.bind_eq_some_iff.mp H
 obtain ⟨⟨t391,t394⟩,A40,H⟩:=H
 replace H:(some t391) = some r:=H
 have A4:=Aside0.mk A40
 clear A40
 obtain rfl:=Option.some.inj H
 go_enter Try.func22,Try.ntmps22
 go_wp2_with (first | ((with_reducible refine gate_dst (N:=3) rfl ?_);refine box_event ?hg (N:=3) ?hd (cs:=#[.slice A0_0 l0_0.length c0_0,.int .u64 a0_1,.slice A0_2 l0_2.length c0_2]) (t:=26) ?hr ?_;(case hd => rfl);(case hg => rfl);(case hr => first | (go_simp;done) | (go_simp;rfl));intro gb390 hg w5 hbox hb;have n0_:=Aside0.mk (below_step (vB HB.out) hb);have n1_:=Aside0.mk (hbox);have n2_:=Aside0.mk ((by rw [hg];exact (below_size (vB HB.out)):w.heap.size≤gb390));have n3_:=Aside0.mk ((by rw [hg];exact (below_size (vB HB.out)):w.heap.size≤gb390));clear HB;have HB:=n0_;have BK390:=n1_;have GW390:=n2_;have GE390:=n3_;clear n0_ n1_ n2_ n3_;clear hb hbox hg;have hcz6_0:w5.cell? ⟨gb390,0,none⟩ = some (.slice A0_0 l0_0.length c0_0):=(blk_cell BK390.out 0).trans rfl;have hcz6_1:w5.cell? ⟨gb390,1,none⟩ = some (.int .u64 a0_1):=(blk_cell BK390.out 1).trans rfl;have hcz6_2:w5.cell? ⟨gb390,2,none⟩ = some (.slice A0_2 l0_2.length c0_2):=(blk_cell BK390.out 2).trans rfl;have hfz6_0:=blk_frozen BK390.out 0;have hfz6_1:=blk_frozen BK390.out 1;have hfz6_2:=blk_frozen BK390.out 2) | ((with_reducible refine gate_callee (f:=23) rfl ?_);refine goesL_ (some 13) rfl rfl Try.func23 (by kernel_rfl) rfl #[.pointer none,.agg #[.slice A0_0 l0_0.length c0_0,.int .u64 a0_1,.slice A0_2 l0_2.length c0_2],.slice A1 l1.length c1,.slice A2 l2.length c2] rfl vA ?_;(with_reducible refine (ring_Add.calls k  _ _ l0_0 a0_1 _ _ l0_2 _ _ l1 _ _ l2 t391 t394 _ ?side1 ?side2 ?side3 ?side4 ?side5 ?side6 ?side7 ?side8 A4.out).mono ?_);(case side1 => repeat (first | exact (Kd.C_below HR0_0.out HB.out) | (with_reducible refine Kd.C_alloc ?_ _) | (with_reducible refine Kd.C_drewN ?_ _) | (with_reducible refine Kd.C_drew ?_)));(case side2 => exact HC0_0.out);(case side3 => repeat (first | exact (Kd.C_below HR0_2.out HB.out) | (with_reducible refine Kd.C_alloc ?_ _) | (with_reducible refine Kd.C_drewN ?_ _) | (with_reducible refine Kd.C_drew ?_)));(case side4 => exact HC0_2.out);(case side5 => repeat (first | exact (Kd.C_below HR1.out HB.out) | (with_reducible refine Kd.C_alloc ?_ _) | (with_reducible refine Kd.C_drewN ?_ _) | (with_reducible refine Kd.C_drew ?_)));(case side6 => exact HC1.out);(case side7 => repeat (first | exact (Kd.C_below HR2.out HB.out) | (with_reducible refine Kd.C_alloc ?_ _) | (with_reducible refine Kd.C_drewN ?_ _) | (with_reducible refine Kd.C_drew ?_)));(case side8 => exact HC2.out);rintro e w7 ⟨v392,rfl,ho0,hb⟩;refine ⟨_,rfl,?_⟩;have n0_:=Aside0.mk (Kd.R_lower ho0 (below_size (vBg HB.out GE390.out)));have n1_:=Aside0.mk (blk_below (g:=gb390) (o:=.cells #[.slice A0_0 l0_0.length c0_0,.int .u64 a0_1,.slice A0_2 l0_2.length c0_2] 26 (0,0)) (vK BK390.out) hb);have n2_:=Aside0.mk (below_step (vBg HB.out GE390.out) hb);clear BK390;clear HB;have HO393:=n0_;have BK390:=n1_;have HB:=n2_;clear n0_ n1_ n2_;(try clear hb);(try clear hb2);(try clear hk);(try clear hi);(try clear ho0)))
 go_ret
 exact ⟨_,by first | rfl | (simp [errW_none,errW_some] <;> rfl) | (simp [*,errW_none,errW_some] <;> rfl),by (with_reducible repeat (first | apply Kd.R_alloc | apply Kd.R_drewN | apply Kd.R_drew));exact HO393.out,by repeat (first | (with_reducible first | exact HB.out | apply below_alloc | apply pw_below_drewN | apply below_drew1 | refine below_set ?_ GE390.out) | exact HB.out)⟩
end Go.Proofs.Ytonpekldcnankaa.X
end
section
namespace Go.Proofs.Ytonpekldcnankaa.X
open Go.RowKit Go.Proofs.YtonpekldcnankaaW.PrintWords Go.Proofs.YtonpekldcnankaaW.PrintLast Go.Proofs.YtonpekldcnankaaW.PrintMore Go.Proofs.Ytonpekldcnankaa.Ma
set_option linter.unusedVariables false
set_option linter.unusedSimpArgs false
theorem sp_ring_Minus {m0 la lb:List Int} (m1:Int) (m2:List Int) (hm:Wd m0) (ha:Wd la) (hb:Wd lb) (la':la.length = m0.length) (lb':lb.length = m0.length) (ma:nW la < nW m0) (mb:nW lb≤nW m0) (hn:m0.length≤300) :
    ring_Minus.f m0 m1 m2 la lb = some (wds m0.length ((nW la + nW m0 - nW lb) % nW m0)):=by
  have hM:=nW_lt hm
  unfold ring_Minus.f
  rw [sp_limbs_Sub ha hb (by omega),Option.bind_some,la',lb',Nat.max_self]
  by_cases c:nW la < nW lb
  · rw [if_pos c]
    simp only []
    rw [sp_limbs_AddIf (by decide) (wds_Wd _ _) hm (by rw [dgs_length];omega),Option.bind_some,dgs_length,Nat.max_self,if_pos (by decide),Nat.mod_eq_of_lt (show nW la + nW m0 - nW lb < nW m0 by omega)]
    simp only []
    rw [nW_wds (by omega)]
    congr 1
    show dgs _ _ _ = dgs _ _ _
    rw [show nW la + 18446744073709551616 ^ m0.length - nW lb + nW m0 = (nW la + nW m0 - nW lb) + 18446744073709551616 ^ m0.length by omega,← dgs_mod,Nat.add_mod_right,dgs_mod]
  · rw [if_neg c]
    simp only []
    rw [sp_limbs_AddIf (by decide) (wds_Wd _ _) hm (by rw [dgs_length];omega),Option.bind_some,dgs_length,Nat.max_self,if_neg (by decide),show nW la + nW m0 - nW lb = (nW la - nW lb) + nW m0 by omega,Nat.add_mod_right,Nat.mod_eq_of_lt (show nW la - nW lb < nW m0 by omega)]
    simp only []
    rw [nW_wds (by omega)]
    rfl
theorem ring_Sub1_ok (A0:Option Addr) (c0:Nat) (m0:List Int) (m1:Int) (A2:Option Addr) (c2:Nat) (m2:List Int) (Aa:Option Addr) (ca:Nat) (la:List Int) (Ab:Option Addr) (cb:Nat) (lb:List Int) (bt bm ba bb:Nat) (P:Value→World→Prop) (w:World)
    (ht:w.heap[bt]? = some (.cells #[.pointer none] 71 (0,0))) (hm:w.heap[bm]? = some (.cells #[.slice A0 m0.length c0,.int .u64 m1,.slice A2 m2.length c2] 26 (0,0))) (ha:w.heap[ba]? = some (.cells #[.slice Aa la.length ca] 23 (0,0))) (hb:w.heap[bb]? = some (.cells #[.slice Ab lb.length cb] 23 (0,0)))
    (hd:Calls Try.prog 73 #[.pointer none,.agg #[.slice A0 m0.length c0,.int .u64 m1,.slice A2 m2.length c2],.slice Aa la.length ca,.slice Ab lb.length cb] w fun e w' => ∃ v,e = .returned v∧P v w') :
    Calls Try.prog 72 #[.pointer (some ⟨bt,0,none⟩),.pointer (some ⟨bm,0,none⟩),.pointer (some ⟨ba,0,none⟩),.pointer (some ⟨bb,0,none⟩)] w fun e w' => ∃ v,e = .returned v∧P v w':=by
  have hu59:=Try.underlying26
  have HD:=Aside0.mk hd
  have zt:=cell_of_one ht
  have za:=cell_of_one ha
  have zb:=cell_of_one hb
  have z0:=(blk_cell hm 0).trans rfl
  have z1:=(blk_cell hm 1).trans rfl
  have z2:=(blk_cell hm 2).trans rfl
  clear hd ht hm ha hb
  go_enter Try.func72,Try.ntmps72
  go_wp2_with (go_at_call 73;(with_reducible refine HD.out.mono ?_);rintro e w5 ⟨v,rfl,hp⟩;have HP:=Aside0.mk hp;clear hp)
  go_ret
  exact ⟨_,rfl,HP.out⟩
theorem ring_Sub_enter (A0:Option Addr) (c0:Nat) (m0:List Int) (m1:Int) (A2:Option Addr) (c2:Nat) (m2:List Int) (Aa:Option Addr) (ca:Nat) (la:List Int) (Ab:Option Addr) (cb:Nat) (lb:List Int) (r1:List Int) (r2:Int) (w:World)
    (hD:∀ (W:World) (gl:Nat),Below w.heap.size w W→(W.heap[w.heap.size]? = some (.cells #[.pointer none] 71 (0,0))∧W.heap[w.heap.size + 1]? = some (.cells #[.slice A0 m0.length c0,.int .u64 m1,.slice A2 m2.length c2] 26 (0,0))∧W.heap[w.heap.size + 1 + 1]? = some (.cells #[.slice Aa la.length ca] 23 (0,0))∧W.heap[w.heap.size + 1 + 1 + 1]? = some (.cells #[.slice Ab lb.length cb] 23 (0,0))) →
      W.heap[gl]? = some (.cells #[.slice Aa la.length ca,.slice Ab lb.length cb] 23 (0,0))→Calls Try.prog 63 #[.agg #[.slice A0 m0.length c0,.int .u64 m1,.slice A2 m2.length c2],.func (.func 72) #[] #[.pointer (some ⟨w.heap.size,0,none⟩),.pointer (some ⟨w.heap.size + 1,0,none⟩),.pointer (some ⟨w.heap.size + 1 + 1,0,none⟩),.pointer (some ⟨w.heap.size + 1 + 1 + 1,0,none⟩)],.slice (some ⟨gl,0,none⟩) 2 2] W fun e w' => ∃ v,e = .returned (.tuple #[v,.int .i64 r2])∧Kd.R (Kd.int .u64) 24 w' w.heap.size (fun _ => True) v r1∧Below w.heap.size w w') :
    Calls Try.prog 25 #[.pointer none,.agg #[.slice A0 m0.length c0,.int .u64 m1,.slice A2 m2.length c2],.slice Aa la.length ca,.slice Ab lb.length cb] w fun e w' => ∃ v,e = .returned (.tuple #[v,.int .i64 r2])∧Kd.R (Kd.int .u64) 24 w' w.heap.size (fun _ => True) v r1∧Below w.heap.size w w':=by
  obtain ⟨w0,hw0⟩:∃ w0:World,w0 = (((w.alloc (.cells #[.pointer none] 71)).alloc (.cells #[.slice A0 m0.length c0,.int .u64 m1,.slice A2 m2.length c2] 26)).alloc (.cells #[.slice Aa la.length ca] 23)).alloc (.cells #[.slice Ab lb.length cb] 23):=⟨_,rfl⟩
  obtain ⟨hb,hB,hsz⟩:=rg_boxes4 w _ _ _ _ _ _ _ _ w0 hw0
  have hu59:=Try.underlying26
  have hl:=blk_new w0 (Obj.cells #[.slice Aa la.length ca,.slice Ab lb.length cb] 23)
  rw [hsz] at hl
  have hc:=hD (w0.alloc (Obj.cells #[.slice Aa la.length ca,.slice Ab lb.length cb] 23)) (w.heap.size + 1 + 1 + 1 + 1) (below_alloc hB _) ⟨blk_alloc hb.1 _,blk_alloc hb.2.1 _,blk_alloc hb.2.2.1 _,blk_alloc hb.2.2.2 _⟩ hl
  clear hD hb hB hsz hl
  subst hw0
  have HC:=Aside0.mk hc
  clear hc
  go_enter Try.func25,Try.ntmps25
  go_wp2_with (go_at_call 63;(with_reducible refine HC.out.mono ?_);rintro e w5 ⟨v,rfl,hp⟩;have HP:=Aside0.mk hp;clear hp)
  go_ret2
  exact ⟨_,rfl,HP.out⟩
theorem ring_Sub_walk (k:Nat) (A0:Option Addr) (c0:Nat) (m0:List Int) (m1:Int) (A2:Option Addr) (c2:Nat) (m2:List Int) (Aa:Option Addr) (ca:Nat) (la:List Int) (Ab:Option Addr) (cb:Nat) (lb:List Int) (r1:List Int) (r2:Int) (w:World) (hr0:Kd.C (Kd.int .u64) w A0 m0.length m0) (hc0:m0.length≤c0) (hr2:Kd.C (Kd.int .u64) w A2 m2.length m2) (hc2:m2.length≤c2) (hra:Kd.C (Kd.int .u64) w Aa la.length la) (hca:la.length≤ca) (hrb:Kd.C (Kd.int .u64) w Ab lb.length lb) (hcb:lb.length≤cb)
    (h:Rg.out (mont_Check.f k m0 m1 m2) m0 [la,lb] (dgs 18446744073709551616 m0.length ((num 18446744073709551616 la + num 18446744073709551616 m0 - num 18446744073709551616 lb) % num 18446744073709551616 m0)) = some (r1,r2)) :
    Calls Try.prog 25 #[.pointer none,.agg #[.slice A0 m0.length c0,.int .u64 m1,.slice A2 m2.length c2],.slice Aa la.length ca,.slice Ab lb.length cb] w fun e w' => ∃ v,e = .returned (.tuple #[v,.int .i64 r2])∧Kd.R (Kd.int .u64) 24 w' w.heap.size (fun _ => True) v r1∧Below w.heap.size w w':=by
  unfold Rg.out at h
  split at h
  · rename_i hok0
    have hok:=Rg.ok_iff.1 hok0
    have hWa:Wd la:=hok.1.2 _ (by simp)
    have hWb:Wd lb:=hok.1.2 _ (by simp)
    cases e:mont_Check.f k m0 m1 m2 with
    | none => rw [e] at h;exact absurd h (by simp)
    | some chk =>
      rw [e] at h
      simp only [Option.bind_some] at h
      refine ring_Sub_enter A0 c0 m0 m1 A2 c2 m2 Aa ca la Ab cb lb r1 r2 w fun W gl hW hb hl => ?_
      have hC:=rg_C2 hl (Kd.C_below hra hW) hca (Kd.C_below hrb hW) hcb
      split at h
      · rename_i hy
        simp only [Option.some.injEq,Prod.mk.injEq] at h
        obtain ⟨rfl,rfl⟩:=h
        obtain ⟨rfl,hmem⟩:=hy
        have hmm:=Rg.mem_iff.1 hmem
        refine (ring_done_yes k A0 c0 m0 m1 A2 c2 m2 72 _ _ _ [la,lb] (fun w1 v w' => Kd.R (Kd.int .u64) 24 w' w1.heap.size (fun _ => True) v (dgs 18446744073709551616 m0.length ((num 18446744073709551616 la + num 18446744073709551616 m0 - num 18446744073709551616 lb) % num 18446744073709551616 m0))∧Below w1.heap.size w1 w') W (Kd.C_below hr0 hW) hc0 (Kd.C_below hr2 hW) hc2 hC (by simp) e (Rg.at_mem hok0 hmem) (fun _ => rfl) (fun w1 hw1 => ?_)).mono ?_
        · have hW1:=below_then hW hW.size hw1
          refine ring_Sub1_ok A0 c0 m0 m1 A2 c2 m2 Aa ca la Ab cb lb _ _ _ _ _ w1 (blk_below hb.1 hw1) (blk_below hb.2.1 hw1) (blk_below hb.2.2.1 hw1) (blk_below hb.2.2.2 hw1) ?_
          have hval:=sp_ring_Minus m1 m2 hok.1.1 hWa hWb (hmm _ (by simp)).1 (hmm _ (by simp)).1 (hmm la (by simp)).2 (Nat.le_of_lt (hmm lb (by simp)).2) hok.2
          exact ring_Minus.calls A0 c0 m0 m1 A2 c2 m2 Aa ca la Ab cb lb _ w1 (Kd.C_below hr0 hW1) hc0 (Kd.C_below hr2 hW1) hc2 (Kd.C_below hra hW1) hca (Kd.C_below hrb hW1) hcb hval
        · rintro e w' ⟨w1,v,g1,rfl,g2,g3⟩
          have hW1:=below_then hW hW.size g1
          exact ⟨v,rfl,Kd.R_lower g2 hW1.size,below_then hW1 hW1.size g3⟩
      · rename_i hy
        simp only [Option.some.injEq,Prod.mk.injEq] at h
        obtain ⟨rfl,rfl⟩:=h
        refine (ring_done_no k A0 c0 m0 m1 A2 c2 m2 _ _ _ [la,lb] chk W (Kd.C_below hr0 hW) hc0 (Kd.C_below hr2 hW) hc2 hC (by simp) e (Rg.at_any hok0) (fun hc => Rg.at_no hok0 (fun hm => hy ⟨hc,hm⟩))).mono ?_
        rintro e w' ⟨rfl,g⟩
        exact ⟨_,rfl,Kd.R_nil _ _ _ _ _,below_then hW hW.size g⟩
  · exact absurd h (by simp)
end Go.Proofs.Ytonpekldcnankaa.X
end
section
namespace Go.Proofs.Ytonpekldcnankaa.X
open Go.RowKit Go.Proofs.YtonpekldcnankaaW.PrintWords Go.Proofs.YtonpekldcnankaaW.PrintLast Go.Proofs.YtonpekldcnankaaW.PrintMore
attribute [local go_sem] max2_int min2_int max_two min_two max_three min_three max_four min_four
set_option linter.unusedVariables false
set_option linter.unusedSimpArgs false
def ring_Sub.f (k:Nat) (m0:List Int) (m1:Int) (m2:List Int) (a b:List Int):Option (List Int × Int) :=
 Rg.out (mont_Check.f k m0 m1 m2) m0 [a,b] (Ma.dgs 18446744073709551616 m0.length ((Ma.num 18446744073709551616 a + Ma.num 18446744073709551616 m0 - Ma.num 18446744073709551616 b) % Ma.num 18446744073709551616 m0))
theorem ring_Sub.calls (k:Nat) (A1_0:Option Addr) (c1_0:Nat) (l1_0:List Int) (a1_1:Int) (A1_2:Option Addr) (c1_2:Nat) (l1_2:List Int) (A2:Option Addr) (c2:Nat) (l2:List Int) (A3:Option Addr) (c3:Nat) (l3:List Int) (r1:List Int) (r2:Int) (w:World) (hr1_0:Kd.C (Kd.int .u64) w A1_0 l1_0.length l1_0) (hc1_0:l1_0.length≤c1_0) (hr1_2:Kd.C (Kd.int .u64) w A1_2 l1_2.length l1_2) (hc1_2:l1_2.length≤c1_2) (hr2:Kd.C (Kd.int .u64) w A2 l2.length l2) (hc2:l2.length≤c2) (hr3:Kd.C (Kd.int .u64) w A3 l3.length l3) (hc3:l3.length≤c3) (h:ring_Sub.f k l1_0 a1_1 l1_2 l2 l3 = some (r1,r2)) :
  Calls Try.prog 25 #[.pointer none,.agg #[.slice A1_0 l1_0.length c1_0,.int .u64 a1_1,.slice A1_2 l1_2.length c1_2],.slice A2 l2.length c2,.slice A3 l3.length c3] w fun e w' => ∃ v0_:Value,e = .returned (.tuple #[v0_,.int .i64 r2])∧Kd.R (Kd.int .u64) 24 w' w.heap.size (fun _ => True) v0_ r1∧Below w.heap.size w w' :=
 ring_Sub_walk k A1_0 c1_0 l1_0 a1_1 A1_2 c1_2 l1_2 A2 c2 l2 A3 c3 l3 r1 r2 w hr1_0 hc1_0 hr1_2 hc1_2 hr2 hc2 hr3 hc3 h
end Go.Proofs.Ytonpekldcnankaa.X
end
