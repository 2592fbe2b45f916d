/- Texts of the walk and of the plain laws, laid together by a program: Rd, Rn, X29. -/
import Derived.Test.YtonpekldcnankaaZC31
set_option maxHeartbeats 4000000
set_option maxRecDepth 100000
section
namespace Go.Proofs.Ytonpekldcnankaa.X
open Go.RowKit Go.Proofs.YtonpekldcnankaaW.PrintWords Go.Proofs.YtonpekldcnankaaW.PrintLast Go.Proofs.YtonpekldcnankaaW.PrintMore Go.Proofs.Ytonpekldcnankaa.Ma
set_option linter.unusedVariables false
set_option linter.unusedSimpArgs false
theorem ring_done_yes (k:Nat) (A0:Option Addr) (c0:Nat) (m0:List Int) (m1:Int) (A2:Option Addr) (c2:Nat) (m2:List Int) (fc:FuncId) (ca:Array Value) (AL:Option Addr) (cL:Nat) (ls:List (List Int)) (Q:World→Value→World→Prop) (w:World)
    (h0:Kd.C (Kd.int .u64) w A0 m0.length m0) (hc0:m0.length≤c0) (h2:Kd.C (Kd.int .u64) w A2 m2.length m2) (hc2:m2.length≤c2) (hL:Kd.C (Kd.slice 24 (Kd.int .u64)) w AL ls.length ls) (hln:ls.length≤1000) (hk:mont_Check.f k m0 m1 m2 = some true)
    (hm:∀ i:Nat,i < ls.length→(rd_L2 ls (i:Int)).length = m0.length∧limbs_Less.f (rd_L2 ls (i:Int)) m0 = some 1) (hcf:∀ w:World,(callFunc fc ca).run Try.prog w = .ok (.enter fc ca) w)
    (hd:∀ w1:World,Below w.heap.size w w1→Calls Try.prog fc ca w1 fun e w' => ∃ v,e = .returned v∧Q w1 v w') :
    Calls Try.prog 63 #[.agg #[.slice A0 m0.length c0,.int .u64 m1,.slice A2 m2.length c2],.func (.func fc) #[] ca,.slice AL ls.length cL] w fun e w' => ∃ w1 v,Below w.heap.size w w1∧e = .returned (.tuple #[v,.int .i64 0])∧Q w1 v w':=by
  have hu59:=Try.underlying26
  have H0:=Aside0.mk h0
  have H2:=Aside0.mk h2
  have HL:=Aside0.mk hL
  have HK:=Aside0.mk hk
  have HM:=Aside0.mk hm
  have HD:=Aside0.mk hd
  clear h0 h2 hL hk hm hd
  go_enter Try.func63,Try.ntmps63
  go_upto_region 1 with ((with_reducible refine gate_dst (N:=3) rfl ?_);refine box_event ?hg (N:=3) ?hd (cs:=#[.slice A0 m0.length c0,.int .u64 m1,.slice A2 m2.length c2]) (t:=26) ?hr ?_;(case hd => rfl);(case hg => rfl);(case hr => first | (go_simp;done) | (go_simp;rfl));intro gb hgb w3 hbox hb;have HX:=Aside0.mk hbox;have HB3:=Aside0.mk hb;clear hbox hb)
  subst hgb
  have HZ:=Aside0.mk (fun (W:World) (hW:Below w3.heap.size w3 W) => And.intro ((blk_cell (blk_below HX.out hW) 0).trans rfl) (And.intro ((blk_cell (blk_below HX.out hW) 1).trans rfl) ((blk_cell (blk_below HX.out hW) 2).trans rfl)))
  obtain ⟨z0,z1,z2⟩:=HZ.out _ (Below.refl _ _)
  go_wp2_with (go_at_call 78;(with_reducible refine (mont_Check.calls k A0 c0 m0 m1 A2 c2 m2 true _ (Kd.C_below H0.out HB3.out) hc0 (Kd.C_below H2.out HB3.out) hc2 HK.out).mono ?_);rintro e w4 ⟨rfl,hb4⟩;have HB4:=Aside0.mk hb4;clear hb4)
  go_loopg [15] (ls.length + 1) (fun q v15 wr => ∃ i:Nat,v15 = .int .i64 (i:Int)∧Aside0 (ls.length < q + i)∧i≤ls.length∧Aside0 (Below w3.heap.size w3 wr))
  case atStart => exact ⟨0,rfl,⟨by omega⟩,Nat.zero_le _,HB4⟩
  case round =>
    clear z0 z1 z2
    obtain ⟨i,rfl,hq,hil,HBr⟩:=hrel
    obtain ⟨ko,hko⟩:∃ ko,gk = ko + 1:=⟨gk - 1,by have:=hq.out;omega⟩
    subst hko
    obtain ⟨z0,z1,z2⟩:=HZ.out _ HBr.out
    have HBw:=Aside0.mk (below_then HB3.out HB3.out.size HBr.out)
    by_cases hi:i < ls.length
    · obtain ⟨m1',m2'⟩:=HM.out i hi
      have HML:=Aside0.mk m2'
      obtain ⟨ad,Ar,cr,er,hx,hl,hr⟩:=at_L2 HL.out (i:Int) (by omega) (by omega)
      cases er
      replace hx:=(HBw.out.cell (World.block_lt_of_cell? w _ hx)).trans hx
      rw [Int.toNat_natCast] at hx
      rw [m1'] at hx hl hr
      have HR:=Aside0.mk hr
      have HRL:=Aside0.mk m1'
      clear hr m2' m1'
      have d1:decide ((i:Int) < (ls.length:Int)) = true:=decide_eq_true (by omega)
      have d1c:decide (i < ls.length) = true:=decide_eq_true hi
      have q2:(i:Int) < (ls.length:Int):=by omega
      have p1:IntKind.i64.wrap ((i:Int) + 1) = ((i + 1:Nat):Int):=by rw [i64_w,w64 (by omega) (by omega)];omega
      obtain ⟨i2,hi2⟩:∃ i2:Nat,i2 = i + 1:=⟨_,rfl⟩
      rw [← hi2] at p1
      have HI2:=Aside0.mk hi2
      clear hi2
      have hcall:=Aside0.mk (fun (W:World) (hW:Below w.heap.size w W) => by
        have:=limbs_Less.calls Ar cr (rd_L2 ls (i:Int)) A0 c0 m0 1 W (by rw [HRL.out];exact Kd.C_below HR.out hW) (by rw [HRL.out];exact hl) (Kd.C_below H0.out hW) hc0 HML.out
        rw [HRL.out] at this
        exact this)
      go_wp2_with (go_at_call 103;(with_reducible refine (hcall.out _ HBw.out).mono ?_);rintro e w5 ⟨rfl,hb5⟩;have HB5:=Aside0.mk hb5;clear hb5)
      go_roundg ko
      case measure => omega
      case rel => exact ⟨i2,rfl,⟨by have:=hq.out;have:=HI2.out;omega⟩,by have:=HI2.out;omega,⟨below_then HBr.out HBr.out.size HB5.out⟩⟩
    · have d1:decide ((i:Int) < (ls.length:Int)) = false:=decide_eq_false (by omega)
      have d1c:decide (i < ls.length) = false:=decide_eq_false hi
      go_wp2_with fail
      refine (HD.out _ HBw.out).mono ?_
      rintro e w5 ⟨v,rfl,hq5⟩
      have HQ:=Aside0.mk hq5
      clear hq5
      go_wp2
      go_ret2
      exact ⟨_,_,HBw.out,rfl,HQ.out⟩
theorem ring_done_no (k:Nat) (A0:Option Addr) (c0:Nat) (m0:List Int) (m1:Int) (A2:Option Addr) (c2:Nat) (m2:List Int) (fv:Value) (AL:Option Addr) (cL:Nat) (ls:List (List Int)) (chk:Bool) (w:World)
    (h0:Kd.C (Kd.int .u64) w A0 m0.length m0) (hc0:m0.length≤c0) (h2:Kd.C (Kd.int .u64) w A2 m2.length m2) (hc2:m2.length≤c2) (hL:Kd.C (Kd.slice 24 (Kd.int .u64)) w AL ls.length ls) (hln:ls.length≤1000) (hk:mont_Check.f k m0 m1 m2 = some chk)
    (hm:∀ i:Nat,i < ls.length→(rd_L2 ls (i:Int)).length = m0.length→∃ b:Int,(b = 0∨b = 1)∧limbs_Less.f (rd_L2 ls (i:Int)) m0 = some b)
    (hno:chk = true→∃ i:Nat,i < ls.length∧¬ ((rd_L2 ls (i:Int)).length = m0.length∧limbs_Less.f (rd_L2 ls (i:Int)) m0 = some 1)) :
    Calls Try.prog 63 #[.agg #[.slice A0 m0.length c0,.int .u64 m1,.slice A2 m2.length c2],fv,.slice AL ls.length cL] w fun e w' => e = .returned (.tuple #[.slice none 0 0,.int .i64 1])∧Below w.heap.size w w':=by
  have hu59:=Try.underlying26
  have H0:=Aside0.mk h0
  have H2:=Aside0.mk h2
  have HL:=Aside0.mk hL
  have HK:=Aside0.mk hk
  have HM:=Aside0.mk hm
  have HN:=Aside0.mk hno
  clear h0 h2 hL hk hm hno
  go_enter Try.func63,Try.ntmps63
  go_upto_region 1 with ((with_reducible refine gate_dst (N:=3) rfl ?_);refine box_event ?hg (N:=3) ?hd (cs:=#[.slice A0 m0.length c0,.int .u64 m1,.slice A2 m2.length c2]) (t:=26) ?hr ?_;(case hd => rfl);(case hg => rfl);(case hr => first | (go_simp;done) | (go_simp;rfl));intro gb hgb w3 hbox hb;have HX:=Aside0.mk hbox;have HB3:=Aside0.mk hb;clear hbox hb)
  subst hgb
  have HZ:=Aside0.mk (fun (W:World) (hW:Below w3.heap.size w3 W) => And.intro ((blk_cell (blk_below HX.out hW) 0).trans rfl) (And.intro ((blk_cell (blk_below HX.out hW) 1).trans rfl) ((blk_cell (blk_below HX.out hW) 2).trans rfl)))
  obtain ⟨z0,z1,z2⟩:=HZ.out _ (Below.refl _ _)
  cases chk with
  | false =>
    go_wp2_with (go_at_call 78;(with_reducible refine (mont_Check.calls k A0 c0 m0 m1 A2 c2 m2 false _ (Kd.C_below H0.out HB3.out) hc0 (Kd.C_below H2.out HB3.out) hc2 HK.out).mono ?_);rintro e w4 ⟨rfl,hb4⟩;have HB4:=Aside0.mk hb4;clear hb4)
    go_ret2
    exact ⟨rfl,below_then HB3.out HB3.out.size HB4.out⟩
  | true =>
  go_wp2_with (go_at_call 78;(with_reducible refine (mont_Check.calls k A0 c0 m0 m1 A2 c2 m2 true _ (Kd.C_below H0.out HB3.out) hc0 (Kd.C_below H2.out HB3.out) hc2 HK.out).mono ?_);rintro e w4 ⟨rfl,hb4⟩;have HB4:=Aside0.mk hb4;clear hb4)
  go_loopg [15] (ls.length + 1) (fun q v15 wr => ∃ i:Nat,v15 = .int .i64 (i:Int)∧Aside0 (ls.length < q + i)∧i≤ls.length∧Aside0 (∀ j,j < i→(rd_L2 ls (j:Int)).length = m0.length∧limbs_Less.f (rd_L2 ls (j:Int)) m0 = some 1)∧Aside0 (Below w3.heap.size w3 wr))
  case atStart => exact ⟨0,rfl,⟨by omega⟩,Nat.zero_le _,⟨fun j hj => absurd hj (by omega)⟩,HB4⟩
  case round =>
    clear z0 z1 z2
    obtain ⟨i,rfl,hq,hil,hall,HBr⟩:=hrel
    obtain ⟨ko,hko⟩:∃ ko,gk = ko + 1:=⟨gk - 1,by have:=hq.out;omega⟩
    subst hko
    obtain ⟨z0,z1,z2⟩:=HZ.out _ HBr.out
    have HBw:=Aside0.mk (below_then HB3.out HB3.out.size HBr.out)
    by_cases hi:i < ls.length
    · obtain ⟨ad,Ar,cr,er,hx,hl,hr⟩:=at_L2 HL.out (i:Int) (by omega) (by omega)
      cases er
      replace hx:=(HBw.out.cell (World.block_lt_of_cell? w _ hx)).trans hx
      rw [Int.toNat_natCast] at hx
      have HR:=Aside0.mk hr
      clear hr
      have d1:decide ((i:Int) < (ls.length:Int)) = true:=decide_eq_true (by omega)
      have d1c:decide (i < ls.length) = true:=decide_eq_true hi
      have q2:(i:Int) < (ls.length:Int):=by omega
      by_cases hlen:(rd_L2 ls (i:Int)).length = m0.length
      · obtain ⟨b,hb01,hb⟩:=HM.out i hi hlen
        rw [hlen] at hx hl
        have HRL:=Aside0.mk hlen
        have HB0:=Aside0.mk hb
        have HB01:=Aside0.mk hb01
        clear hlen hb hb01
        have hcall:=Aside0.mk (fun (W:World) (hW:Below w.heap.size w W) => by
          have:=limbs_Less.calls Ar cr (rd_L2 ls (i:Int)) A0 c0 m0 b W (Kd.C_below HR.out hW) (by rw [HRL.out];exact hl) (Kd.C_below H0.out hW) hc0 HB0.out
          rw [HRL.out] at this
          exact this)
        rcases HB01.out with rfl | rfl
        · go_wp2_with (go_at_call 103;(with_reducible refine (hcall.out _ HBw.out).mono ?_);rintro e w5 ⟨rfl,hb5⟩;have HB5:=Aside0.mk hb5;clear hb5)
          go_ret2
          exact ⟨rfl,below_then HBw.out HBw.out.size HB5.out⟩
        · have p1:IntKind.i64.wrap ((i:Int) + 1) = ((i + 1:Nat):Int):=by rw [i64_w,w64 (by omega) (by omega)];omega
          obtain ⟨i2,hi2⟩:∃ i2:Nat,i2 = i + 1:=⟨_,rfl⟩
          rw [← hi2] at p1
          have HI2:=Aside0.mk hi2
          clear hi2
          go_wp2_with (go_at_call 103;(with_reducible refine (hcall.out _ HBw.out).mono ?_);rintro e w5 ⟨rfl,hb5⟩;have HB5:=Aside0.mk hb5;clear hb5)
          go_roundg ko
          case measure => omega
          case rel =>
            refine ⟨i2,rfl,⟨by have:=hq.out;have:=HI2.out;omega⟩,by have:=HI2.out;omega,⟨fun j hj => ?_⟩,⟨below_then HBr.out HBr.out.size HB5.out⟩⟩
            rcases Nat.lt_or_ge j i with g | g
            · exact hall.out j g
            · have e:j = i:=by have:=HI2.out;omega
              subst e
              exact ⟨HRL.out,HB0.out⟩
      · have c0':(((rd_L2 ls (i:Int)).length:Int) == (m0.length:Int)) = false:=beq_eq_false_iff_ne.2 (by omega)
        have c1':(((rd_L2 ls (i:Int)).length:Int) != (m0.length:Int)) = true:=bne_iff_ne.2 (by omega)
        have c2':((rd_L2 ls (i:Int)).length == m0.length) = false:=beq_eq_false_iff_ne.2 hlen
        have c3':decide ((rd_L2 ls (i:Int)).length = m0.length) = false:=decide_eq_false hlen
        clear hlen
        go_wp2
        go_ret2
        exact ⟨rfl,HBw.out⟩
    · exfalso
      obtain ⟨j,hj,hj2⟩:=HN.out (by simp)
      exact hj2 (hall.out j (by omega))
end Go.Proofs.Ytonpekldcnankaa.X
end
section
namespace Go.Proofs.Ytonpekldcnankaa.X
open Go.RowKit Go.Proofs.YtonpekldcnankaaW.PrintWords Go.Proofs.YtonpekldcnankaaW.PrintLast Go.Proofs.YtonpekldcnankaaW.PrintMore Go.Proofs.Ytonpekldcnankaa.Ma
set_option linter.unusedVariables false
set_option linter.unusedSimpArgs false
theorem Wd_zeros (n:Nat):Wd (List.replicate n (0:Int)):=by rw [← dgs_zero (B:=18446744073709551616)];exact wds_Wd _ _
theorem ring_Neg1_ok (A0:Option Addr) (c0:Nat) (m0:List Int) (m1:Int) (A2:Option Addr) (c2:Nat) (m2:List Int) (Aa:Option Addr) (ca:Nat) (la:List Int) (bt bm ba:Nat) (P:Value→World→Prop) (w:World) (hla:la.length≤1000)
    (ht:w.heap[bt]? = some (.cells #[.pointer none] 71 (0,0))) (hm:w.heap[bm]? = some (.cells #[.slice A0 m0.length c0,.int .u64 m1,.slice A2 m2.length c2] 26 (0,0))) (ha:w.heap[ba]? = some (.cells #[.slice Aa la.length ca] 23 (0,0)))
    (hd:∀ (W:World) (Az:Option Addr) (cz:Nat),Below w.heap.size w W→Kd.C (Kd.int .u64) W Az la.length (List.replicate la.length 0)→la.length≤cz→Calls Try.prog 73 #[.pointer none,.agg #[.slice A0 m0.length c0,.int .u64 m1,.slice A2 m2.length c2],.slice Az la.length cz,.slice Aa la.length ca] W fun e w' => ∃ v,e = .returned v∧P v w'∧Below w.heap.size w w') :
    Calls Try.prog 75 #[.pointer (some ⟨bt,0,none⟩),.pointer (some ⟨bm,0,none⟩),.pointer (some ⟨ba,0,none⟩)] w fun e w' => ∃ v,e = .returned v∧P v w':=by
  have hu59:=Try.underlying26
  have HD:=Aside0.mk hd
  have HZ:=Aside0.mk (fun (W:World) (hW:Below w.heap.size w W) => And.intro (cell_of_one (blk_below ht hW)) (And.intro (cell_of_one (blk_below ha hW)) (And.intro ((blk_cell (blk_below hm hW) 0).trans rfl) (And.intro ((blk_cell (blk_below hm hW) 1).trans rfl) ((blk_cell (blk_below hm hW) 2).trans rfl)))))
  obtain ⟨zt,za,z0,z1,z2⟩:=HZ.out _ (Below.refl _ _)
  clear hd ht hm ha
  go_enter Try.func75,Try.ntmps75
  have hmk:=run_make_nat la.length (by omega)
  have hs:Below w.heap.size w (w.alloc (.cells (Zs la.length) 24)).drew:=Below.drew (below_alloc (Below.refl _ _) _)
  have hy:=HZ.out _ hs
  have hr:=R_zs (ok:=fun _ => True) (blk_new w (.cells (Zs la.length) 24)) (Nat.le_refl _) (by omega) trivial
  obtain ⟨hr1,hr2,hr3⟩:=Kd.R_reads' hr
  clear hr1
  try rw [List.length_replicate] at hr3
  have HDD:=Aside0.mk (HD.out _ _ _ hs (Kd.C_drew hr3) hr2)
  have HY:=Aside0.mk hy
  have HZ0:=Aside0.mk (HZ.out w.drew (Below.drew (Below.refl _ _)))
  clear HD hr hr2 hr3 hs hy zt za z0 z1 z2
  go_upto_region 1 with (fail)
  go_region_held3 (fun w' => w'.cell? ⟨bt,0,none⟩ = some (.pointer none)∧w'.cell? ⟨ba,0,none⟩ = some (.slice Aa la.length ca)∧w'.cell? ⟨bm,0,none⟩ = some (.slice A0 m0.length c0)∧w'.cell? ⟨bm,1,none⟩ = some (.int .u64 m1)∧w'.cell? ⟨bm,2,none⟩ = some (.slice A2 m2.length c2)) (first | exact HZ0.out | exact HY.out | exact HZ5.out) (first | (go_at_call 73;(with_reducible refine HDD.out.mono ?_);rintro e w5 ⟨v,rfl,hp,hb5⟩;have HP:=Aside0.mk hp;have HZ5:=Aside0.mk (HZ.out _ hb5);clear hp hb5))
  all_goals (go_wp2;go_ret;exact ⟨_,rfl,HP.out⟩)
theorem ring_Neg_enter (A0:Option Addr) (c0:Nat) (m0:List Int) (m1:Int) (A2:Option Addr) (c2:Nat) (m2:List Int) (Aa:Option Addr) (ca:Nat) (la:List Int) (r1:List Int) (r2:Int) (w:World)
    (hD:∀ (W:World) (gl:Nat),Below w.heap.size w W→(W.heap[w.heap.size]? = some (.cells #[.pointer none] 71 (0,0))∧W.heap[w.heap.size + 1]? = some (.cells #[.slice A0 m0.length c0,.int .u64 m1,.slice A2 m2.length c2] 26 (0,0))∧W.heap[w.heap.size + 1 + 1]? = some (.cells #[.slice Aa la.length ca] 23 (0,0))) →
      W.heap[gl]? = some (.cells #[.slice Aa la.length ca] 23 (0,0))→Calls Try.prog 63 #[.agg #[.slice A0 m0.length c0,.int .u64 m1,.slice A2 m2.length c2],.func (.func 75) #[] #[.pointer (some ⟨w.heap.size,0,none⟩),.pointer (some ⟨w.heap.size + 1,0,none⟩),.pointer (some ⟨w.heap.size + 1 + 1,0,none⟩)],.slice (some ⟨gl,0,none⟩) 1 1] W fun e w' => ∃ v,e = .returned (.tuple #[v,.int .i64 r2])∧Kd.R (Kd.int .u64) 24 w' w.heap.size (fun _ => True) v r1∧Below w.heap.size w w') :
    Calls Try.prog 27 #[.pointer none,.agg #[.slice A0 m0.length c0,.int .u64 m1,.slice A2 m2.length c2],.slice Aa la.length ca] w fun e w' => ∃ v,e = .returned (.tuple #[v,.int .i64 r2])∧Kd.R (Kd.int .u64) 24 w' w.heap.size (fun _ => True) v r1∧Below w.heap.size w w':=by
  obtain ⟨w0,hw0⟩:∃ w0:World,w0 = ((w.alloc (.cells #[.pointer none] 71)).alloc (.cells #[.slice A0 m0.length c0,.int .u64 m1,.slice A2 m2.length c2] 26)).alloc (.cells #[.slice Aa la.length ca] 23):=⟨_,rfl⟩
  obtain ⟨hb,hB,hsz⟩:=rg_boxes3 w _ _ _ _ _ _ w0 hw0
  have hu59:=Try.underlying26
  have hl:=blk_new w0 (Obj.cells #[.slice Aa la.length ca] 23)
  rw [hsz] at hl
  have hc:=hD (w0.alloc (Obj.cells #[.slice Aa la.length ca] 23)) (w.heap.size + 1 + 1 + 1) (below_alloc hB _) ⟨blk_alloc hb.1 _,blk_alloc hb.2.1 _,blk_alloc hb.2.2 _⟩ hl
  clear hD hb hB hsz hl
  subst hw0
  have HC:=Aside0.mk hc
  clear hc
  go_enter Try.func27,Try.ntmps27
  go_wp2_with (go_at_call 63;(with_reducible refine HC.out.mono ?_);rintro e w5 ⟨v,rfl,hp⟩;have HP:=Aside0.mk hp;clear hp)
  go_ret2
  exact ⟨_,rfl,HP.out⟩
theorem ring_Neg_walk (k:Nat) (A0:Option Addr) (c0:Nat) (m0:List Int) (m1:Int) (A2:Option Addr) (c2:Nat) (m2:List Int) (Aa:Option Addr) (ca:Nat) (la:List Int) (r1:List Int) (r2:Int) (w:World) (hr0:Kd.C (Kd.int .u64) w A0 m0.length m0) (hc0:m0.length≤c0) (hr2:Kd.C (Kd.int .u64) w A2 m2.length m2) (hc2:m2.length≤c2) (hra:Kd.C (Kd.int .u64) w Aa la.length la) (hca:la.length≤ca)
    (h:Rg.out (mont_Check.f k m0 m1 m2) m0 [la] (dgs 18446744073709551616 m0.length ((num 18446744073709551616 m0 - num 18446744073709551616 la) % num 18446744073709551616 m0)) = some (r1,r2)) :
    Calls Try.prog 27 #[.pointer none,.agg #[.slice A0 m0.length c0,.int .u64 m1,.slice A2 m2.length c2],.slice Aa la.length ca] w fun e w' => ∃ v,e = .returned (.tuple #[v,.int .i64 r2])∧Kd.R (Kd.int .u64) 24 w' w.heap.size (fun _ => True) v r1∧Below w.heap.size w w':=by
  unfold Rg.out at h
  split at h
  · rename_i hok0
    have hok:=Rg.ok_iff.1 hok0
    have hWa:Wd la:=hok.1.2 _ (by simp)
    cases e:mont_Check.f k m0 m1 m2 with
    | none => rw [e] at h;exact absurd h (by simp)
    | some chk =>
      rw [e] at h
      simp only [Option.bind_some] at h
      refine ring_Neg_enter A0 c0 m0 m1 A2 c2 m2 Aa ca la r1 r2 w fun W gl hW hb hl => ?_
      have hC:=rg_C1 hl (Kd.C_below hra hW) hca
      split at h
      · rename_i hy
        simp only [Option.some.injEq,Prod.mk.injEq] at h
        obtain ⟨rfl,rfl⟩:=h
        obtain ⟨rfl,hmem⟩:=hy
        have hmm:=Rg.mem_iff.1 hmem
        refine (ring_done_yes k A0 c0 m0 m1 A2 c2 m2 75 _ _ _ [la] (fun w1 v w' => Kd.R (Kd.int .u64) 24 w' w1.heap.size (fun _ => True) v (dgs 18446744073709551616 m0.length ((num 18446744073709551616 m0 - num 18446744073709551616 la) % num 18446744073709551616 m0))∧Below w1.heap.size w1 w') W (Kd.C_below hr0 hW) hc0 (Kd.C_below hr2 hW) hc2 hC (by simp) e (Rg.at_mem hok0 hmem) (fun _ => rfl) (fun w1 hw1 => ?_)).mono ?_
        · have hW1:=below_then hW hW.size hw1
          refine ring_Neg1_ok A0 c0 m0 m1 A2 c2 m2 Aa ca la _ _ _ _ w1 (by have:=(hmm la (by simp)).1;omega) (blk_below hb.1 hw1) (blk_below hb.2.1 hw1) (blk_below hb.2.2 hw1) (fun W2 Az cz hw2 hz hcz => ?_)
          have hW2:=below_then hW1 hW1.size hw2
          have hz0:nW (List.replicate la.length (0:Int)) = 0:=num_replicate _
          have hval:=sp_ring_Minus m1 m2 hok.1.1 (Wd_zeros la.length) hWa (by rw [List.length_replicate];exact (hmm _ (by simp)).1) (hmm _ (by simp)).1 (by rw [hz0];have:=(hmm la (by simp)).2;omega) (Nat.le_of_lt (hmm la (by simp)).2) hok.2
          rw [hz0,Nat.zero_add] at hval
          have hcall:=ring_Minus.calls A0 c0 m0 m1 A2 c2 m2 Az cz (List.replicate la.length 0) Aa ca la _ W2 (Kd.C_below hr0 hW2) hc0 (Kd.C_below hr2 hW2) hc2 (by rw [List.length_replicate];exact hz) (by rw [List.length_replicate];exact hcz) (Kd.C_below hra hW2) hca hval
          rw [List.length_replicate] at hcall
          refine hcall.mono ?_
          rintro e w' ⟨v,rfl,q1,q2⟩
          exact ⟨v,rfl,⟨Kd.R_lower q1 hw2.size,below_then hw2 hw2.size q2⟩,below_then hw2 hw2.size q2⟩
        · rintro e w' ⟨w1,v,g1,rfl,g2,g3⟩
          have hW1:=below_then hW hW.size g1
          exact ⟨v,rfl,Kd.R_lower g2 hW1.size,below_then hW1 hW1.size g3⟩
      · rename_i hy
        simp only [Option.some.injEq,Prod.mk.injEq] at h
        obtain ⟨rfl,rfl⟩:=h
        refine (ring_done_no k A0 c0 m0 m1 A2 c2 m2 _ _ _ [la] chk W (Kd.C_below hr0 hW) hc0 (Kd.C_below hr2 hW) hc2 hC (by simp) e (Rg.at_any hok0) (fun hc => Rg.at_no hok0 (fun hm => hy ⟨hc,hm⟩))).mono ?_
        rintro e w' ⟨rfl,g⟩
        exact ⟨_,rfl,Kd.R_nil _ _ _ _ _,below_then hW hW.size g⟩
  · exact absurd h (by simp)
end Go.Proofs.Ytonpekldcnankaa.X
end
section
namespace Go.Proofs.Ytonpekldcnankaa.X
open Go.RowKit Go.Proofs.YtonpekldcnankaaW.PrintWords Go.Proofs.YtonpekldcnankaaW.PrintLast Go.Proofs.YtonpekldcnankaaW.PrintMore
attribute [local go_sem] max2_int min2_int max_two min_two max_three min_three max_four min_four
set_option linter.unusedVariables false
set_option linter.unusedSimpArgs false
def ring_Neg.f (k:Nat) (m0:List Int) (m1:Int) (m2:List Int) (a:List Int):Option (List Int × Int) :=
 Rg.out (mont_Check.f k m0 m1 m2) m0 [a] (Ma.dgs 18446744073709551616 m0.length ((Ma.num 18446744073709551616 m0 - Ma.num 18446744073709551616 a) % Ma.num 18446744073709551616 m0))
theorem ring_Neg.mono:∀ a0 a1 a2 a3 k,LeO (ring_Neg.f k a0 a1 a2 a3) (ring_Neg.f (k + 1) a0 a1 a2 a3):=fun _ _ _ _ _ => Rg.gate (mont_Check.mono _ _ _ _)
theorem ring_Neg.calls (k:Nat) (A1_0:Option Addr) (c1_0:Nat) (l1_0:List Int) (a1_1:Int) (A1_2:Option Addr) (c1_2:Nat) (l1_2:List Int) (A2:Option Addr) (c2:Nat) (l2:List Int) (r1:List Int) (r2:Int) (w:World) (hr1_0:Kd.C (Kd.int .u64) w A1_0 l1_0.length l1_0) (hc1_0:l1_0.length≤c1_0) (hr1_2:Kd.C (Kd.int .u64) w A1_2 l1_2.length l1_2) (hc1_2:l1_2.length≤c1_2) (hr2:Kd.C (Kd.int .u64) w A2 l2.length l2) (hc2:l2.length≤c2) (h:ring_Neg.f k l1_0 a1_1 l1_2 l2 = some (r1,r2)) :
  Calls Try.prog 27 #[.pointer none,.agg #[.slice A1_0 l1_0.length c1_0,.int .u64 a1_1,.slice A1_2 l1_2.length c1_2],.slice A2 l2.length c2] w fun e w' => ∃ v0_:Value,e = .returned (.tuple #[v0_,.int .i64 r2])∧Kd.R (Kd.int .u64) 24 w' w.heap.size (fun _ => True) v0_ r1∧Below w.heap.size w w' :=
 ring_Neg_walk k A1_0 c1_0 l1_0 a1_1 A1_2 c1_2 l1_2 A2 c2 l2 r1 r2 w hr1_0 hc1_0 hr1_2 hc1_2 hr2 hc2 h
end Go.Proofs.Ytonpekldcnankaa.X
end
