/- Texts of the walk and of the plain laws, laid together by a program: X14. -/
import Derived.Test.YtonpekldcnankaaZC6
import Derived.Test.YtonpekldcnankaaZC30
set_option maxHeartbeats 8000000
set_option maxRecDepth 100000
namespace Go.Proofs.Ytonpekldcnankaa.X
open Go.RowKit Go.Proofs.YtonpekldcnankaaW.PrintWords Go.Proofs.YtonpekldcnankaaW.PrintLast Go.Proofs.YtonpekldcnankaaW.PrintMore
attribute [local go_sem] max2_int min2_int max_two min_two max_three min_three max_four min_four
set_option linter.unusedVariables false
set_option linter.unusedSimpArgs false
def api_Nat_uint64_111.l0:Nat→List Int→List Int→Int→Int→Option (Bool)
 | 0,_,_,_,_ => none
 | k + 1,x0,x1,x12,x13 => if x13 < x12 then (if 0≤x13 then (if x13 < (x0.length:Int) then (if x13 < (x1.length:Int) then (if (rd x0 x13) = (rd x1 x13) then (api_Nat_uint64_111.l0 k x0 x1 x12 (wrap64 (x13 + 1))) else (some false)) else (none)) else (none)) else (none)) else (some true)
def api_Nat_uint64_111.f (k:Nat) (l0:List Int) (l1:List Int):Option (Bool):=if (l0.length:Int) = (l1.length:Int) then (api_Nat_uint64_111.l0 k l0 l1 (l0.length:Int) 0) else (some false)
theorem api_Nat_uint64_111.mono_l:∀ k,(∀ y0 y1 y2 y3,LeO (api_Nat_uint64_111.l0 k y0 y1 y2 y3) (api_Nat_uint64_111.l0 (k + 1) y0 y1 y2 y3))
 | 0 => fun _ _ _ _ r h => by simp [api_Nat_uint64_111.l0] at h
 | k + 1 => by
  have ih0:=api_Nat_uint64_111.mono_l k
  ·
   intro y0 y1 y2 y3
   unfold api_Nat_uint64_111.l0
   repeat' first
   | (with_reducible exact ih0 _ _ _ _)
   | (with_reducible exact LeO.refl _)
   | (with_reducible exact LeO.none _)
   | (with_reducible refine LeO.ite ?_ ?_)
   | (with_reducible refine LeO.bind ?_ (fun _ => ?_))
   | exact ih0 _ _ _ _
   | exact LeO.none _
   | refine LeO.ite ?_ ?_
   | refine LeO.bind ?_ (fun _ => ?_)
theorem api_Nat_uint64_111.mono:∀ a0 a1 k,LeO (api_Nat_uint64_111.f k a0 a1) (api_Nat_uint64_111.f (k + 1) a0 a1):=by
 intro a0 a1 k
 have ih0:=api_Nat_uint64_111.mono_l k
 unfold api_Nat_uint64_111.f
 repeat' first
   | (with_reducible exact ih0 _ _ _ _)
   | (with_reducible exact LeO.refl _)
   | (with_reducible exact LeO.none _)
   | (with_reducible refine LeO.ite ?_ ?_)
   | (with_reducible refine LeO.bind ?_ (fun _ => ?_))
   | exact ih0 _ _ _ _
   | exact LeO.none _
   | refine LeO.ite ?_ ?_
   | refine LeO.bind ?_ (fun _ => ?_)
theorem api_Nat_uint64_111.calls (k:Nat) (A0:Option Addr) (c0:Nat) (l0:List Int) (A1:Option Addr) (c1:Nat) (l1:List Int) (r:Bool) (w:World) (hr0:Kd.C (Kd.int .u64) w A0 l0.length l0) (hc0:l0.length≤c0) (hr1:Kd.C (Kd.int .u64) w A1 l1.length l1) (hc1:l1.length≤c1) (h:api_Nat_uint64_111.f k l0 l1 = some r) :
  Calls Try.prog 111 #[.slice A0 l0.length c0,.slice A1 l1.length c1] w fun e w' => e = .returned (.bool r)∧Drawn0 w w':=by
 have HR0:=Aside0.mk hr0
 have HC0:=Aside0.mk hc0
 clear hr0 hc0
 have HR1:=Aside0.mk hr1
 have HC1:=Aside0.mk hc1
 clear hr1 hc1
 have H:(if (l0.length:Int) = (l1.length:Int) then (api_Nat_uint64_111.l0 k l0 l1 (l0.length:Int) 0) else (some false)) = some r:=h
 clear h
 by_cases c3:(l0.length:Int) = (l1.length:Int)
 ·
  rw [if_pos c3] at H
  have c3b0:((l0.length:Int) == (l1.length:Int)) = true:=beq_iff_eq.mpr c3
  have c3b1:((l0.length:Int) != (l1.length:Int)) = false:=bne_eq_false_iff_eq.mpr c3
  have c3b2:(l0.length == l1.length) = true:=by first | simpa using c3 | (simp at c3 ⊢;omega)
  clear c3
  have H':=Aside0.mk H
  clear H
  go_enter Try.func111,Try.ntmps111
  go_wp2
  repeat (go_quiet (fail);try go_wp2)
  go_loopg [13] k (fun kq v13 w' => ∃ (x13_1:Int),v13 = .int .i64 x13_1∧Aside0 (api_Nat_uint64_111.l0 kq l0 l1 (l0.length:Int) x13_1 = some r)∧Aside0 (kq≤k)∧Drawn0 w w')
  case atStart => exact ⟨(0),(by first | rfl | (simp;done) | (simp [*];done)),H',⟨Nat.le_refl _⟩,by repeat (first | exact Drawn0.refl _ | apply Drawn0.step)⟩
  case round =>
   clear H'
   try clear c1
   try clear p2
   try clear c3
   try clear c3b0
   try clear c3b1
   try clear c3b2
   obtain ⟨x13_1,rfl,HA,HK1,⟨m1,rfl⟩⟩:=hrel
   cases gk with
   | zero => exact absurd HA.out (by simp [api_Nat_uint64_111.l0])
   | succ k1 =>
    have H:=HA.out
    clear HA
    simp only [api_Nat_uint64_111.l0] at H
    by_cases c4:x13_1 < (l0.length:Int)
    ·
     rw [if_pos c4] at H
     have c4b0:decide (x13_1 < (l0.length:Int)) = true:=decide_eq_true c4
     clear c4
     by_cases c5:0≤x13_1
     ·
      rw [if_pos c5] at H
      have c5b0:decide (0≤x13_1) = true:=decide_eq_true c5
      clear c5
      by_cases c6:x13_1 < (l0.length:Int)
      ·
       rw [if_pos c6] at H
       have c6b0:decide (x13_1 < (l0.length:Int)) = true:=decide_eq_true c6
       clear c6
       by_cases c7:x13_1 < (l1.length:Int)
       ·
        rw [if_pos c7] at H
        have c7b0:decide (x13_1 < (l1.length:Int)) = true:=decide_eq_true c7
        clear c7
        by_cases c8:(rd l0 x13_1) = (rd l1 x13_1)
        ·
         rw [if_pos c8] at H
         have c8b0:((rd l0 x13_1) == (rd l1 x13_1)) = true:=beq_iff_eq.mpr c8
         have c8b1:((rd l0 x13_1) != (rd l1 x13_1)) = false:=bne_eq_false_iff_eq.mpr c8
         clear c8
         have H':=Aside0.mk H
         clear H
         have p240:0≤(x13_1:Int):=of_decide_eq_true vD
         have q240:x13_1 < (l0.length:Int):=of_decide_eq_true vD
         obtain ⟨ad240,e240,hx240_0⟩:=Kd.at_int HR0.out x13_1 p240 q240
         cases e240
         replace p240:=eq_true p240
         replace q240:=eq_true q240
         have p241:0≤(x13_1:Int):=of_decide_eq_true vD
         have q241:x13_1 < (l1.length:Int):=of_decide_eq_true vD
         obtain ⟨ad241,e241,hx241_0⟩:=Kd.at_int HR1.out x13_1 p241 q241
         cases e241
         replace p241:=eq_true p241
         replace q241:=eq_true q241
         go_wp2
         repeat (go_quiet (fail);try go_wp2)
         go_roundg k1
         case measure => have:=HK1.out;omega
         case rel => exact ⟨(wrap64 (x13_1 + 1)),(by first | rfl | (simp;done) | (simp [*];done)),H',⟨by have:=HK1.out;omega⟩,by repeat (first | exact Drawn0.refl _ | apply Drawn0.step)⟩
        ·
         rw [if_neg c8] at H
         have c8b0:((rd l0 x13_1) == (rd l1 x13_1)) = false:=beq_eq_false_iff_ne.mpr c8
         have c8b1:((rd l0 x13_1) != (rd l1 x13_1)) = true:=bne_iff_ne.mpr c8
         obtain rfl:=Option.some.inj H
         have p240:0≤(x13_1:Int):=of_decide_eq_true vD
         have q240:x13_1 < (l0.length:Int):=of_decide_eq_true vD
         obtain ⟨ad240,e240,hx240_0⟩:=Kd.at_int HR0.out x13_1 p240 q240
         cases e240
         replace p240:=eq_true p240
         replace q240:=eq_true q240
         have p241:0≤(x13_1:Int):=of_decide_eq_true vD
         have q241:x13_1 < (l1.length:Int):=of_decide_eq_true vD
         obtain ⟨ad241,e241,hx241_0⟩:=Kd.at_int HR1.out x13_1 p241 q241
         cases e241
         replace p241:=eq_true p241
         replace q241:=eq_true q241
         go_wp2
         repeat (go_quiet (fail);try go_wp2)
         go_ret
         exact ⟨by first | rfl | (simp;done) | (simp [*];done),by repeat (first | exact Drawn0.refl _ | apply Drawn0.step)⟩
       ·
        rw [if_neg c7] at H
        exact absurd H (by simp)
      ·
       rw [if_neg c6] at H
       exact absurd H (by simp)
     ·
      rw [if_neg c5] at H
      exact absurd H (by simp)
    ·
     rw [if_neg c4] at H
     have c4b0:decide (x13_1 < (l0.length:Int)) = false:=decide_eq_false c4
     clear c4
     obtain rfl:=Option.some.inj H
     go_wp2
     repeat (go_quiet (fail);try go_wp2)
     go_ret
     exact ⟨by first | rfl | (simp;done) | (simp [*];done),by repeat (first | exact Drawn0.refl _ | apply Drawn0.step)⟩
 ·
  rw [if_neg c3] at H
  have c3b0:((l0.length:Int) == (l1.length:Int)) = false:=beq_eq_false_iff_ne.mpr c3
  have c3b1:((l0.length:Int) != (l1.length:Int)) = true:=bne_iff_ne.mpr c3
  have c3b2:(l0.length == l1.length) = false:=by first | simpa using c3 | (simp at c3 ⊢;omega)
  obtain rfl:=Option.some.inj H
  go_enter Try.func111,Try.ntmps111
  go_wp2
  repeat (go_quiet (fail);try go_wp2)
  go_ret
  exact ⟨by first | rfl | (simp;done) | (simp [*];done),by repeat (first | exact Drawn0.refl _ | apply Drawn0.step)⟩
def mont_Check.f (k:Nat) (l0_0:List Int) (a0_1:Int) (l0_2:List Int):Option (Bool):=(mont_Setup.f k l0_0).bind fun bt243 => (if bt243.2.2.2 = 0 then ((api_Nat_uint64_111.f k bt243.1 l0_0).bind fun t252 => (if t252 = true then (if bt243.2.1 = a0_1 then ((api_Nat_uint64_111.f k bt243.2.2.1 l0_2).bind fun t253 => (some t253)) else (some false)) else (some false))) else (some false))
theorem mont_Check.mono:∀ a0 a1 a2 k,LeO (mont_Check.f k a0 a1 a2) (mont_Check.f (k + 1) a0 a1 a2):=by
 intro a0 a1 a2 k
 unfold mont_Check.f
 repeat' first
   | (with_reducible exact api_Nat_uint64_111.mono _ _ _)
   | (with_reducible exact mont_Setup.mono _ _)
   | (with_reducible exact LeO.refl _)
   | (with_reducible exact LeO.none _)
   | (with_reducible refine LeO.ite ?_ ?_)
   | (with_reducible refine LeO.bind ?_ (fun _ => ?_))
   | exact api_Nat_uint64_111.mono _ _ _
   | exact mont_Setup.mono _ _
   | exact LeO.none _
   | refine LeO.ite ?_ ?_
   | refine LeO.bind ?_ (fun _ => ?_)
theorem mont_Check.calls (k:Nat) (A0_0:Option Addr) (c0_0:Nat) (l0_0:List Int) (a0_1:Int) (A0_2:Option Addr) (c0_2:Nat) (l0_2:List Int) (r:Bool) (w:World) (hr0_0:Kd.C (Kd.int .u64) w A0_0 l0_0.length l0_0) (hc0_0:l0_0.length≤c0_0) (hr0_2:Kd.C (Kd.int .u64) w A0_2 l0_2.length l0_2) (hc0_2:l0_2.length≤c0_2) (h:mont_Check.f k l0_0 a0_1 l0_2 = some r) :
  Calls Try.prog 78 #[.agg #[.slice A0_0 l0_0.length c0_0,.int .u64 a0_1,.slice A0_2 l0_2.length c0_2]] w fun e w' => e = .returned (.bool r)∧Below w.heap.size w w':=by
 have hu26:=Try.underlying26
 have HR0_0:=Aside0.mk hr0_0
 have HC0_0:=Aside0.mk hc0_0
 clear hr0_0 hc0_0
 have HR0_2:=Aside0.mk hr0_2
 have HC0_2:=Aside0.mk hc0_2
 clear hr0_2 hc0_2
 have HB:=Aside0.mk (Below.refl w.heap.size w)
 have H:((mont_Setup.f k l0_0).bind fun bt243 => (if bt243.2.2.2 = 0 then ((api_Nat_uint64_111.f k bt243.1 l0_0).bind fun t252 => (if t252 = true then (if bt243.2.1 = a0_1 then ((api_Nat_uint64_111.f k bt243.2.2.1 l0_2).bind fun t253 => (some t253)) else (some false)) else (some false))) else (some false))) = some r:=h
 clear h
 replace H:=Option.bind_eq_some_iff.mp H
 obtain ⟨⟨t243,t246,t247,t250⟩,A20,H⟩:=H
 replace H:(if t250 = 0 then ((api_Nat_uint64_111.f k t243 l0_0).bind fun t252 => (if t252 = true then (if t246 = a0_1 then ((api_Nat_uint64_111.f k t247 l0_2).bind fun t253 => (some t253)) else (some false)) else (some false))) else (some false)) = some r:=H
 have A2:=Aside0.mk A20
 clear A20
 by_cases c3:t250 = 0
 ·
  rw [if_pos c3] at H
  have c3b0:(t250 == 0) = true:=beq_iff_eq.mpr c3
  have c3b1:(t250 != 0) = false:=bne_eq_false_iff_eq.mpr c3
  clear c3
  replace H:=Option.bind_eq_some_iff.mp H
  obtain ⟨t252,A40,H⟩:=H
  replace H:(if t252 = true then (if t246 = a0_1 then ((api_Nat_uint64_111.f k t247 l0_2).bind fun t253 => (some t253)) else (some false)) else (some false)) = some r:=H
  have A4:=Aside0.mk A40
  clear A40
  by_cases c5:t252 = true
  ·
   subst c5
   have H1:(if t246 = a0_1 then ((api_Nat_uint64_111.f k t247 l0_2).bind fun t253 => (some t253)) else (some false)) = some r:=by rw [if_pos rfl] at H;exact H
   clear H
   have H:=H1
   clear H1
   by_cases c6:t246 = a0_1
   ·
    rw [if_pos c6] at H
    have c6b0:(t246 == a0_1) = true:=beq_iff_eq.mpr c6
    have c6b1:(t246 != a0_1) = false:=bne_eq_false_iff_eq.mpr c6
    clear c6
    replace H:=Option.bind_eq_some_iff.mp H
    obtain ⟨t253,A70,H⟩:=H
    replace H:(some t253) = some r:=H
    have A7:=Aside0.mk A70
    clear A70
    obtain rfl:=Option.some.inj H
    go_enter Try.func78,Try.ntmps78
    go_wp2_with (first | ((with_reducible refine gate_dst (N:=1) rfl ?_);refine box_event ?hg (N:=1) ?hd (cs:=#[.slice A0_0 l0_0.length c0_0,.int .u64 a0_1,.slice A0_2 l0_2.length c0_2]) (t:=26) ?hr ?_;(case hd => rfl);(case hg => rfl);(case hr => first | (go_simp;done) | (go_simp;rfl));intro gb242 hg w8 hbox hb;have n0_:=Aside0.mk (below_step (vB HB.out) hb);have n1_:=Aside0.mk (hbox);have n2_:=Aside0.mk ((by rw [hg];exact (below_size (vB HB.out)):w.heap.size≤gb242));have n3_:=Aside0.mk ((by rw [hg];exact (below_size (vB HB.out)):w.heap.size≤gb242));clear HB;have HB:=n0_;have BK242:=n1_;have GW242:=n2_;have GE242:=n3_;clear n0_ n1_ n2_ n3_;clear hb hbox hg;have hcz9_0:w8.cell? ⟨gb242,0,none⟩ = some (.slice A0_0 l0_0.length c0_0):=(blk_cell BK242.out 0).trans rfl;have hcz9_1:w8.cell? ⟨gb242,1,none⟩ = some (.int .u64 a0_1):=(blk_cell BK242.out 1).trans rfl;have hcz9_2:w8.cell? ⟨gb242,2,none⟩ = some (.slice A0_2 l0_2.length c0_2):=(blk_cell BK242.out 2).trans rfl;have hfz9_0:=blk_frozen BK242.out 0;have hfz9_1:=blk_frozen BK242.out 1;have hfz9_2:=blk_frozen BK242.out 2) | ((with_reducible refine gate_callee (f:=110) rfl ?_);refine goesL_ (some 8) rfl rfl Try.func110 (by kernel_rfl) rfl #[.slice A0_0 l0_0.length c0_0] rfl vA ?_;(with_reducible refine (mont_Setup.calls k _ _ l0_0 t243 t246 t247 t250 _ ?side1 ?side2 A2.out).mono ?_);(case side1 => repeat (first | exact (Kd.C_below HR0_0.out HB.out) | (with_reducible refine Kd.C_alloc ?_ _) | (with_reducible refine Kd.C_drewN ?_ _) | (with_reducible refine Kd.C_drew ?_)));(case side2 => exact HC0_0.out);rintro e w10 ⟨v244,v248,rfl,ho0,ho1,hb⟩;refine ⟨_,rfl,?_⟩;have n0_:=Aside0.mk (Kd.R_lower ho0 (below_size (vBg HB.out GE242.out)));have n1_:=Aside0.mk (Kd.R_lower ho1 (below_size (vBg HB.out GE242.out)));have n2_:=Aside0.mk (blk_below (g:=gb242) (o:=.cells #[.slice A0_0 l0_0.length c0_0,.int .u64 a0_1,.slice A0_2 l0_2.length c0_2] 26 (0,0)) (vK BK242.out) hb);have n3_:=Aside0.mk (below_step (vBg HB.out GE242.out) hb);clear BK242;clear HB;have HO245:=n0_;have HO249:=n1_;have BK242:=n2_;have HB:=n3_;clear n0_ n1_ n2_ n3_;(try clear hb);(try clear hb2);(try clear hk);(try clear hi);(try clear ho0);(try clear ho1)) | ((with_reducible refine gate_dst (N:=3) rfl ?_);refine box_event ?hg (N:=3) ?hd (cs:=#[.slice none 0 0,.int .u64 0,.slice none 0 0]) (t:=26) ?hr ?_;(case hd => rfl);(case hg => rfl);(case hr => first | (go_simp;done) | (go_simp;rfl));intro gb251 hg w11 hbox hb;have n0_:=Aside0.mk (Kd.R_below (vR HO245.out) hb);have n1_:=Aside0.mk (Kd.R_below (vR HO249.out) hb);have n2_:=Aside0.mk (blk_below (g:=gb242) (o:=.cells #[.slice A0_0 l0_0.length c0_0,.int .u64 a0_1,.slice A0_2 l0_2.length c0_2] 26 (0,0)) (vK BK242.out) hb);have n3_:=Aside0.mk (below_step (vBg HB.out GE242.out) hb);have n4_:=Aside0.mk (hbox);have n5_:=Aside0.mk ((by rw [hg];exact (below_size (vBg HB.out GE242.out)):w.heap.size≤gb251));have n6_:=Aside0.mk ((by rw [hg];exact (below_size (vBg HB.out GE242.out)):w.heap.size≤gb251));have n7_:=Aside0.mk ((by rw [hg];exact Nat.ne_of_lt (blk_lt (g:=gb242) (o:=.cells #[.slice A0_0 l0_0.length c0_0,.int .u64 a0_1,.slice A0_2 l0_2.length c0_2] 26 (0,0)) (vK BK242.out)):gb242≠gb251));have n8_:=Aside0.mk ((by rw [hg];exact Nat.ne_of_gt (blk_lt (g:=gb242) (o:=.cells #[.slice A0_0 l0_0.length c0_0,.int .u64 a0_1,.slice A0_2 l0_2.length c0_2] 26 (0,0)) (vK BK242.out)):gb251≠gb242));clear HO245;clear HO249;clear BK242;clear HB;have HO245:=n0_;have HO249:=n1_;have BK242:=n2_;have HB:=n3_;have BK251:=n4_;have GW251:=n5_;have GE251:=n6_;have NB242_251:=n7_;have NB251_242:=n8_;clear n0_ n1_ n2_ n3_ n4_ n5_ n6_ n7_ n8_;clear hb hbox hg;obtain ⟨Ao12,co12,eo12⟩:=Kd.R_slice HO245.out;subst eo12;have hnb13:=NB251_242.out;have hnc13:=NB242_251.out;have hcz14_0:w11.cell? ⟨gb251,0,none⟩ = some (.slice none 0 0):=(blk_cell BK251.out 0).trans rfl;have hcz14_1:w11.cell? ⟨gb251,1,none⟩ = some (.int .u64 0):=(blk_cell BK251.out 1).trans rfl;have hcz14_2:w11.cell? ⟨gb251,2,none⟩ = some (.slice none 0 0):=(blk_cell BK251.out 2).trans rfl;have hfz14_0:=blk_frozen BK251.out 0;have hfz14_1:=blk_frozen BK251.out 1;have hfz14_2:=blk_frozen BK251.out 2;obtain ⟨Ao15,co15,eo15⟩:=Kd.R_slice HO249.out;subst eo15;have hcz16_0:w11.cell? ⟨gb242,0,none⟩ = some (.slice A0_0 l0_0.length c0_0):=(blk_cell BK242.out 0).trans rfl;have hcz16_1:w11.cell? ⟨gb242,1,none⟩ = some (.int .u64 a0_1):=(blk_cell BK242.out 1).trans rfl;have hcz16_2:w11.cell? ⟨gb242,2,none⟩ = some (.slice A0_2 l0_2.length c0_2):=(blk_cell BK242.out 2).trans rfl;have hfz16_0:=blk_frozen BK242.out 0;have hfz16_1:=blk_frozen BK242.out 1;have hfz16_2:=blk_frozen BK242.out 2) | (go_at_call 111;(with_reducible refine (api_Nat_uint64_111.calls k _ _ t243 _ _ l0_0 true _ ?side1 ?side2 ?side3 ?side4 A4.out).mono ?_);(case side1 => refine (Kd.R_reads' (e:=24) (base:=w.heap.size) (ok:=fun k_ => some k_≠(.slice Ao15 t247.length co15:Value).ownBlock) (n:=t243.length) (c:=co12) ?_).2.2;exact (by (with_reducible repeat (first | apply Kd.R_alloc | apply Kd.R_drewN | apply Kd.R_drew));exact (Kd.R_mono (Kd.R_far (p:=⟨gb251,2,none⟩) (Kd.R_far (p:=⟨gb251,1,none⟩) (Kd.R_far (p:=⟨gb251,0,none⟩) (Kd.R_types HO245.out BK251.out (by decide)) (fun _ hk => hk.2) (.slice Ao12 t243.length co12)) (fun _ hk => hk.2) (.int .u64 t246)) (fun _ hk => hk.2) (.slice Ao15 t247.length co15)) (fun _ h_ => h_.1))));(case side2 => exact (Kd.R_reads' HO245.out).2.1);(case side3 => exact Kd.C_below HR0_0.out (by repeat (first | (with_reducible first | exact HB.out | apply below_alloc | apply pw_below_drewN | apply below_drew1 | refine below_set ?_ GE242.out | refine below_set ?_ GE251.out) | exact HB.out)));(case side4 => exact HC0_0.out);rintro e w' ⟨rfl,⟨nd,rfl⟩⟩) | (go_at_call 111;(with_reducible refine (api_Nat_uint64_111.calls k _ _ t247 _ _ l0_2 t253 _ ?side1 ?side2 ?side3 ?side4 A7.out).mono ?_);(case side1 => refine (Kd.R_reads' (e:=24) (base:=w.heap.size) (ok:=fun k_ => some k_≠(.slice Ao12 t243.length co12:Value).ownBlock) (n:=t247.length) (c:=co15) ?_).2.2;exact (by (with_reducible repeat (first | apply Kd.R_alloc | apply Kd.R_drewN | apply Kd.R_drew));exact (Kd.R_mono (Kd.R_far (p:=⟨gb251,2,none⟩) (Kd.R_far (p:=⟨gb251,1,none⟩) (Kd.R_far (p:=⟨gb251,0,none⟩) (Kd.R_types HO249.out BK251.out (by decide)) (fun _ hk => hk.2) (.slice Ao12 t243.length co12)) (fun _ hk => hk.2) (.int .u64 t246)) (fun _ hk => hk.2) (.slice Ao15 t247.length co15)) (fun _ h_ => h_.1))));(case side2 => exact (Kd.R_reads' HO249.out).2.1);(case side3 => exact Kd.C_below HR0_2.out (by repeat (first | (with_reducible first | exact HB.out | apply below_alloc | apply pw_below_drewN | apply below_drew1 | refine below_set ?_ GE242.out | refine below_set ?_ GE251.out) | exact HB.out)));(case side4 => exact HC0_2.out);rintro e w' ⟨rfl,⟨nd,rfl⟩⟩))
    go_ret
    exact ⟨by first | rfl | (simp [errW_none,errW_some] <;> rfl) | (simp [*,errW_none,errW_some] <;> rfl),by repeat (first | (with_reducible first | exact HB.out | apply below_alloc | apply pw_below_drewN | apply below_drew1 | refine below_set ?_ GE242.out | refine below_set ?_ GE251.out) | exact HB.out)⟩
   ·
    rw [if_neg c6] at H
    have c6b0:(t246 == a0_1) = false:=beq_eq_false_iff_ne.mpr c6
    have c6b1:(t246 != a0_1) = true:=bne_iff_ne.mpr c6
    obtain rfl:=Option.some.inj H
    go_enter Try.func78,Try.ntmps78
    go_wp2_with (first | ((with_reducible refine gate_dst (N:=1) rfl ?_);refine box_event ?hg (N:=1) ?hd (cs:=#[.slice A0_0 l0_0.length c0_0,.int .u64 a0_1,.slice A0_2 l0_2.length c0_2]) (t:=26) ?hr ?_;(case hd => rfl);(case hg => rfl);(case hr => first | (go_simp;done) | (go_simp;rfl));intro gb242 hg w17 hbox hb;have n0_:=Aside0.mk (below_step (vB HB.out) hb);have n1_:=Aside0.mk (hbox);have n2_:=Aside0.mk ((by rw [hg];exact (below_size (vB HB.out)):w.heap.size≤gb242));have n3_:=Aside0.mk ((by rw [hg];exact (below_size (vB HB.out)):w.heap.size≤gb242));clear HB;have HB:=n0_;have BK242:=n1_;have GW242:=n2_;have GE242:=n3_;clear n0_ n1_ n2_ n3_;clear hb hbox hg;have hcz18_0:w17.cell? ⟨gb242,0,none⟩ = some (.slice A0_0 l0_0.length c0_0):=(blk_cell BK242.out 0).trans rfl;have hcz18_1:w17.cell? ⟨gb242,1,none⟩ = some (.int .u64 a0_1):=(blk_cell BK242.out 1).trans rfl;have hcz18_2:w17.cell? ⟨gb242,2,none⟩ = some (.slice A0_2 l0_2.length c0_2):=(blk_cell BK242.out 2).trans rfl;have hfz18_0:=blk_frozen BK242.out 0;have hfz18_1:=blk_frozen BK242.out 1;have hfz18_2:=blk_frozen BK242.out 2) | ((with_reducible refine gate_callee (f:=110) rfl ?_);refine goesL_ (some 8) rfl rfl Try.func110 (by kernel_rfl) rfl #[.slice A0_0 l0_0.length c0_0] rfl vA ?_;(with_reducible refine (mont_Setup.calls k _ _ l0_0 t243 t246 t247 t250 _ ?side1 ?side2 A2.out).mono ?_);(case side1 => repeat (first | exact (Kd.C_below HR0_0.out HB.out) | (with_reducible refine Kd.C_alloc ?_ _) | (with_reducible refine Kd.C_drewN ?_ _) | (with_reducible refine Kd.C_drew ?_)));(case side2 => exact HC0_0.out);rintro e w19 ⟨v244,v248,rfl,ho0,ho1,hb⟩;refine ⟨_,rfl,?_⟩;have n0_:=Aside0.mk (Kd.R_lower ho0 (below_size (vBg HB.out GE242.out)));have n1_:=Aside0.mk (Kd.R_lower ho1 (below_size (vBg HB.out GE242.out)));have n2_:=Aside0.mk (blk_below (g:=gb242) (o:=.cells #[.slice A0_0 l0_0.length c0_0,.int .u64 a0_1,.slice A0_2 l0_2.length c0_2] 26 (0,0)) (vK BK242.out) hb);have n3_:=Aside0.mk (below_step (vBg HB.out GE242.out) hb);clear BK242;clear HB;have HO245:=n0_;have HO249:=n1_;have BK242:=n2_;have HB:=n3_;clear n0_ n1_ n2_ n3_;(try clear hb);(try clear hb2);(try clear hk);(try clear hi);(try clear ho0);(try clear ho1)) | ((with_reducible refine gate_dst (N:=3) rfl ?_);refine box_event ?hg (N:=3) ?hd (cs:=#[.slice none 0 0,.int .u64 0,.slice none 0 0]) (t:=26) ?hr ?_;(case hd => rfl);(case hg => rfl);(case hr => first | (go_simp;done) | (go_simp;rfl));intro gb251 hg w20 hbox hb;have n0_:=Aside0.mk (Kd.R_below (vR HO245.out) hb);have n1_:=Aside0.mk (Kd.R_below (vR HO249.out) hb);have n2_:=Aside0.mk (blk_below (g:=gb242) (o:=.cells #[.slice A0_0 l0_0.length c0_0,.int .u64 a0_1,.slice A0_2 l0_2.length c0_2] 26 (0,0)) (vK BK242.out) hb);have n3_:=Aside0.mk (below_step (vBg HB.out GE242.out) hb);have n4_:=Aside0.mk (hbox);have n5_:=Aside0.mk ((by rw [hg];exact (below_size (vBg HB.out GE242.out)):w.heap.size≤gb251));have n6_:=Aside0.mk ((by rw [hg];exact (below_size (vBg HB.out GE242.out)):w.heap.size≤gb251));have n7_:=Aside0.mk ((by rw [hg];exact Nat.ne_of_lt (blk_lt (g:=gb242) (o:=.cells #[.slice A0_0 l0_0.length c0_0,.int .u64 a0_1,.slice A0_2 l0_2.length c0_2] 26 (0,0)) (vK BK242.out)):gb242≠gb251));have n8_:=Aside0.mk ((by rw [hg];exact Nat.ne_of_gt (blk_lt (g:=gb242) (o:=.cells #[.slice A0_0 l0_0.length c0_0,.int .u64 a0_1,.slice A0_2 l0_2.length c0_2] 26 (0,0)) (vK BK242.out)):gb251≠gb242));clear HO245;clear HO249;clear BK242;clear HB;have HO245:=n0_;have HO249:=n1_;have BK242:=n2_;have HB:=n3_;have BK251:=n4_;have GW251:=n5_;have GE251:=n6_;have NB242_251:=n7_;have NB251_242:=n8_;clear n0_ n1_ n2_ n3_ n4_ n5_ n6_ n7_ n8_;clear hb hbox hg;obtain ⟨Ao21,co21,eo21⟩:=Kd.R_slice HO245.out;subst eo21;have hnb22:=NB251_242.out;have hnc22:=NB242_251.out;have hcz23_0:w20.cell? ⟨gb251,0,none⟩ = some (.slice none 0 0):=(blk_cell BK251.out 0).trans rfl;have hcz23_1:w20.cell? ⟨gb251,1,none⟩ = some (.int .u64 0):=(blk_cell BK251.out 1).trans rfl;have hcz23_2:w20.cell? ⟨gb251,2,none⟩ = some (.slice none 0 0):=(blk_cell BK251.out 2).trans rfl;have hfz23_0:=blk_frozen BK251.out 0;have hfz23_1:=blk_frozen BK251.out 1;have hfz23_2:=blk_frozen BK251.out 2;obtain ⟨Ao24,co24,eo24⟩:=Kd.R_slice HO249.out;subst eo24;have hcz25_0:w20.cell? ⟨gb242,0,none⟩ = some (.slice A0_0 l0_0.length c0_0):=(blk_cell BK242.out 0).trans rfl;have hcz25_1:w20.cell? ⟨gb242,1,none⟩ = some (.int .u64 a0_1):=(blk_cell BK242.out 1).trans rfl;have hcz25_2:w20.cell? ⟨gb242,2,none⟩ = some (.slice A0_2 l0_2.length c0_2):=(blk_cell BK242.out 2).trans rfl;have hfz25_0:=blk_frozen BK242.out 0;have hfz25_1:=blk_frozen BK242.out 1;have hfz25_2:=blk_frozen BK242.out 2) | (go_at_call 111;(with_reducible refine (api_Nat_uint64_111.calls k _ _ t243 _ _ l0_0 true _ ?side1 ?side2 ?side3 ?side4 A4.out).mono ?_);(case side1 => refine (Kd.R_reads' (e:=24) (base:=w.heap.size) (ok:=fun k_ => some k_≠(.slice Ao24 t247.length co24:Value).ownBlock) (n:=t243.length) (c:=co21) ?_).2.2;exact (by (with_reducible repeat (first | apply Kd.R_alloc | apply Kd.R_drewN | apply Kd.R_drew));exact (Kd.R_mono (Kd.R_far (p:=⟨gb251,2,none⟩) (Kd.R_far (p:=⟨gb251,1,none⟩) (Kd.R_far (p:=⟨gb251,0,none⟩) (Kd.R_types HO245.out BK251.out (by decide)) (fun _ hk => hk.2) (.slice Ao21 t243.length co21)) (fun _ hk => hk.2) (.int .u64 t246)) (fun _ hk => hk.2) (.slice Ao24 t247.length co24)) (fun _ h_ => h_.1))));(case side2 => exact (Kd.R_reads' HO245.out).2.1);(case side3 => exact Kd.C_below HR0_0.out (by repeat (first | (with_reducible first | exact HB.out | apply below_alloc | apply pw_below_drewN | apply below_drew1 | refine below_set ?_ GE242.out | refine below_set ?_ GE251.out) | exact HB.out)));(case side4 => exact HC0_0.out);rintro e w' ⟨rfl,⟨nd,rfl⟩⟩))
    go_ret
    exact ⟨by first | rfl | (simp [errW_none,errW_some] <;> rfl) | (simp [*,errW_none,errW_some] <;> rfl),by repeat (first | (with_reducible first | exact HB.out | apply below_alloc | apply pw_below_drewN | apply below_drew1 | refine below_set ?_ GE242.out | refine below_set ?_ GE251.out) | exact HB.out)⟩
  ·
   replace c5:=Bool.eq_false_iff.mpr c5
   subst c5
   have H1:(some false) = some r:=by rw [if_neg (show ¬ (false = true) by decide)] at H;exact H
   clear H
   have H:=H1
   clear H1
   obtain rfl:=Option.some.inj H
   go_enter Try.func78,Try.ntmps78
   go_wp2_with (first | ((with_reducible refine gate_dst (N:=1) rfl ?_);refine box_event ?hg (N:=1) ?hd (cs:=#[.slice A0_0 l0_0.length c0_0,.int .u64 a0_1,.slice A0_2 l0_2.length c0_2]) (t:=26) ?hr ?_;(case hd => rfl);(case hg => rfl);(case hr => first | (go_simp;done) | (go_simp;rfl));intro gb242 hg w26 hbox hb;have n0_:=Aside0.mk (below_step (vB HB.out) hb);have n1_:=Aside0.mk (hbox);have n2_:=Aside0.mk ((by rw [hg];exact (below_size (vB HB.out)):w.heap.size≤gb242));have n3_:=Aside0.mk ((by rw [hg];exact (below_size (vB HB.out)):w.heap.size≤gb242));clear HB;have HB:=n0_;have BK242:=n1_;have GW242:=n2_;have GE242:=n3_;clear n0_ n1_ n2_ n3_;clear hb hbox hg;have hcz27_0:w26.cell? ⟨gb242,0,none⟩ = some (.slice A0_0 l0_0.length c0_0):=(blk_cell BK242.out 0).trans rfl;have hcz27_1:w26.cell? ⟨gb242,1,none⟩ = some (.int .u64 a0_1):=(blk_cell BK242.out 1).trans rfl;have hcz27_2:w26.cell? ⟨gb242,2,none⟩ = some (.slice A0_2 l0_2.length c0_2):=(blk_cell BK242.out 2).trans rfl;have hfz27_0:=blk_frozen BK242.out 0;have hfz27_1:=blk_frozen BK242.out 1;have hfz27_2:=blk_frozen BK242.out 2) | ((with_reducible refine gate_callee (f:=110) rfl ?_);refine goesL_ (some 8) rfl rfl Try.func110 (by kernel_rfl) rfl #[.slice A0_0 l0_0.length c0_0] rfl vA ?_;(with_reducible refine (mont_Setup.calls k _ _ l0_0 t243 t246 t247 t250 _ ?side1 ?side2 A2.out).mono ?_);(case side1 => repeat (first | exact (Kd.C_below HR0_0.out HB.out) | (with_reducible refine Kd.C_alloc ?_ _) | (with_reducible refine Kd.C_drewN ?_ _) | (with_reducible refine Kd.C_drew ?_)));(case side2 => exact HC0_0.out);rintro e w28 ⟨v244,v248,rfl,ho0,ho1,hb⟩;refine ⟨_,rfl,?_⟩;have n0_:=Aside0.mk (Kd.R_lower ho0 (below_size (vBg HB.out GE242.out)));have n1_:=Aside0.mk (Kd.R_lower ho1 (below_size (vBg HB.out GE242.out)));have n2_:=Aside0.mk (blk_below (g:=gb242) (o:=.cells #[.slice A0_0 l0_0.length c0_0,.int .u64 a0_1,.slice A0_2 l0_2.length c0_2] 26 (0,0)) (vK BK242.out) hb);have n3_:=Aside0.mk (below_step (vBg HB.out GE242.out) hb);clear BK242;clear HB;have HO245:=n0_;have HO249:=n1_;have BK242:=n2_;have HB:=n3_;clear n0_ n1_ n2_ n3_;(try clear hb);(try clear hb2);(try clear hk);(try clear hi);(try clear ho0);(try clear ho1)) | ((with_reducible refine gate_dst (N:=3) rfl ?_);refine box_event ?hg (N:=3) ?hd (cs:=#[.slice none 0 0,.int .u64 0,.slice none 0 0]) (t:=26) ?hr ?_;(case hd => rfl);(case hg => rfl);(case hr => first | (go_simp;done) | (go_simp;rfl));intro gb251 hg w29 hbox hb;have n0_:=Aside0.mk (Kd.R_below (vR HO245.out) hb);have n1_:=Aside0.mk (Kd.R_below (vR HO249.out) hb);have n2_:=Aside0.mk (blk_below (g:=gb242) (o:=.cells #[.slice A0_0 l0_0.length c0_0,.int .u64 a0_1,.slice A0_2 l0_2.length c0_2] 26 (0,0)) (vK BK242.out) hb);have n3_:=Aside0.mk (below_step (vBg HB.out GE242.out) hb);have n4_:=Aside0.mk (hbox);have n5_:=Aside0.mk ((by rw [hg];exact (below_size (vBg HB.out GE242.out)):w.heap.size≤gb251));have n6_:=Aside0.mk ((by rw [hg];exact (below_size (vBg HB.out GE242.out)):w.heap.size≤gb251));have n7_:=Aside0.mk ((by rw [hg];exact Nat.ne_of_lt (blk_lt (g:=gb242) (o:=.cells #[.slice A0_0 l0_0.length c0_0,.int .u64 a0_1,.slice A0_2 l0_2.length c0_2] 26 (0,0)) (vK BK242.out)):gb242≠gb251));have n8_:=Aside0.mk ((by rw [hg];exact Nat.ne_of_gt (blk_lt (g:=gb242) (o:=.cells #[.slice A0_0 l0_0.length c0_0,.int .u64 a0_1,.slice A0_2 l0_2.length c0_2] 26 (0,0)) (vK BK242.out)):gb251≠gb242));clear HO245;clear HO249;clear BK242;clear HB;have HO245:=n0_;have HO249:=n1_;have BK242:=n2_;have HB:=n3_;have BK251:=n4_;have GW251:=n5_;have GE251:=n6_;have NB242_251:=n7_;have NB251_242:=n8_;clear n0_ n1_ n2_ n3_ n4_ n5_ n6_ n7_ n8_;clear hb hbox hg;obtain ⟨Ao30,co30,eo30⟩:=Kd.R_slice HO245.out;subst eo30;have hnb31:=NB251_242.out;have hnc31:=NB242_251.out;have hcz32_0:w29.cell? ⟨gb251,0,none⟩ = some (.slice none 0 0):=(blk_cell BK251.out 0).trans rfl;have hcz32_1:w29.cell? ⟨gb251,1,none⟩ = some (.int .u64 0):=(blk_cell BK251.out 1).trans rfl;have hcz32_2:w29.cell? ⟨gb251,2,none⟩ = some (.slice none 0 0):=(blk_cell BK251.out 2).trans rfl;have hfz32_0:=blk_frozen BK251.out 0;have hfz32_1:=blk_frozen BK251.out 1;have hfz32_2:=blk_frozen BK251.out 2;obtain ⟨Ao33,co33,eo33⟩:=Kd.R_slice HO249.out;subst eo33;have hcz34_0:w29.cell? ⟨gb242,0,none⟩ = some (.slice A0_0 l0_0.length c0_0):=(blk_cell BK242.out 0).trans rfl;have hcz34_1:w29.cell? ⟨gb242,1,none⟩ = some (.int .u64 a0_1):=(blk_cell BK242.out 1).trans rfl;have hcz34_2:w29.cell? ⟨gb242,2,none⟩ = some (.slice A0_2 l0_2.length c0_2):=(blk_cell BK242.out 2).trans rfl;have hfz34_0:=blk_frozen BK242.out 0;have hfz34_1:=blk_frozen BK242.out 1;have hfz34_2:=blk_frozen BK242.out 2) | (go_at_call 111;(with_reducible refine (api_Nat_uint64_111.calls k _ _ t243 _ _ l0_0 false _ ?side1 ?side2 ?side3 ?side4 A4.out).mono ?_);(case side1 => refine (Kd.R_reads' (e:=24) (base:=w.heap.size) (ok:=fun k_ => some k_≠(.slice Ao33 t247.length co33:Value).ownBlock) (n:=t243.length) (c:=co30) ?_).2.2;exact (by (with_reducible repeat (first | apply Kd.R_alloc | apply Kd.R_drewN | apply Kd.R_drew));exact (Kd.R_mono (Kd.R_far (p:=⟨gb251,2,none⟩) (Kd.R_far (p:=⟨gb251,1,none⟩) (Kd.R_far (p:=⟨gb251,0,none⟩) (Kd.R_types HO245.out BK251.out (by decide)) (fun _ hk => hk.2) (.slice Ao30 t243.length co30)) (fun _ hk => hk.2) (.int .u64 t246)) (fun _ hk => hk.2) (.slice Ao33 t247.length co33)) (fun _ h_ => h_.1))));(case side2 => exact (Kd.R_reads' HO245.out).2.1);(case side3 => exact Kd.C_below HR0_0.out (by repeat (first | (with_reducible first | exact HB.out | apply below_alloc | apply pw_below_drewN | apply below_drew1 | refine below_set ?_ GE242.out | refine below_set ?_ GE251.out) | exact HB.out)));(case side4 => exact HC0_0.out);rintro e w' ⟨rfl,⟨nd,rfl⟩⟩))
   go_ret
   exact ⟨by first | rfl | (simp [errW_none,errW_some] <;> rfl) | (simp [*,errW_none,errW_some] <;> rfl),by repeat (first | (with_reducible first | exact HB.out | apply below_alloc | apply pw_below_drewN | apply below_drew1 | refine below_set ?_ GE242.out | refine below_set ?_ GE251.out) | exact HB.out)⟩
 ·
  rw [if_neg c3] at H
  have c3b0:(t250 == 0) = false:=beq_eq_false_iff_ne.mpr c3
  have c3b1:(t250 != 0) = true:=bne_iff_ne.mpr c3
  obtain rfl:=Option.some.inj H
  go_enter Try.func78,Try.ntmps78
  go_wp2_with (first | ((with_reducible refine gate_dst (N:=1) rfl ?_);refine box_event ?hg (N:=1) ?hd (cs:=#[.slice A0_0 l0_0.length c0_0,.int .u64 a0_1,.slice A0_2 l0_2.length c0_2]) (t:=26) ?hr ?_;(case hd => rfl);(case hg => rfl);(case hr => first | (go_simp;done) | (go_simp;rfl));intro gb242 hg w35 hbox hb;have n0_:=Aside0.mk (below_step (vB HB.out) hb);have n1_:=Aside0.mk (hbox);have n2_:=Aside0.mk ((by rw [hg];exact (below_size (vB HB.out)):w.heap.size≤gb242));have n3_:=Aside0.mk ((by rw [hg];exact (below_size (vB HB.out)):w.heap.size≤gb242));clear HB;have HB:=n0_;have BK242:=n1_;have GW242:=n2_;have GE242:=n3_;clear n0_ n1_ n2_ n3_;clear hb hbox hg;have hcz36_0:w35.cell? ⟨gb242,0,none⟩ = some (.slice A0_0 l0_0.length c0_0):=(blk_cell BK242.out 0).trans rfl;have hcz36_1:w35.cell? ⟨gb242,1,none⟩ = some (.int .u64 a0_1):=(blk_cell BK242.out 1).trans rfl;have hcz36_2:w35.cell? ⟨gb242,2,none⟩ = some (.slice A0_2 l0_2.length c0_2):=(blk_cell BK242.out 2).trans rfl;have hfz36_0:=blk_frozen BK242.out 0;have hfz36_1:=blk_frozen BK242.out 1;have hfz36_2:=blk_frozen BK242.out 2) | ((with_reducible refine gate_callee (f:=110) rfl ?_);refine goesL_ (some 8) rfl rfl Try.func110 (by kernel_rfl) rfl #[.slice A0_0 l0_0.length c0_0] rfl vA ?_;(with_reducible refine (mont_Setup.calls k _ _ l0_0 t243 t246 t247 t250 _ ?side1 ?side2 A2.out).mono ?_);(case side1 => repeat (first | exact (Kd.C_below HR0_0.out HB.out) | (with_reducible refine Kd.C_alloc ?_ _) | (with_reducible refine Kd.C_drewN ?_ _) | (with_reducible refine Kd.C_drew ?_)));(case side2 => exact HC0_0.out);rintro e w37 ⟨v244,v248,rfl,ho0,ho1,hb⟩;refine ⟨_,rfl,?_⟩;have n0_:=Aside0.mk (Kd.R_lower ho0 (below_size (vBg HB.out GE242.out)));have n1_:=Aside0.mk (Kd.R_lower ho1 (below_size (vBg HB.out GE242.out)));have n2_:=Aside0.mk (blk_below (g:=gb242) (o:=.cells #[.slice A0_0 l0_0.length c0_0,.int .u64 a0_1,.slice A0_2 l0_2.length c0_2] 26 (0,0)) (vK BK242.out) hb);have n3_:=Aside0.mk (below_step (vBg HB.out GE242.out) hb);clear BK242;clear HB;have HO245:=n0_;have HO249:=n1_;have BK242:=n2_;have HB:=n3_;clear n0_ n1_ n2_ n3_;(try clear hb);(try clear hb2);(try clear hk);(try clear hi);(try clear ho0);(try clear ho1)) | ((with_reducible refine gate_dst (N:=3) rfl ?_);refine box_event ?hg (N:=3) ?hd (cs:=#[.slice none 0 0,.int .u64 0,.slice none 0 0]) (t:=26) ?hr ?_;(case hd => rfl);(case hg => rfl);(case hr => first | (go_simp;done) | (go_simp;rfl));intro gb251 hg w38 hbox hb;have n0_:=Aside0.mk (Kd.R_below (vR HO245.out) hb);have n1_:=Aside0.mk (Kd.R_below (vR HO249.out) hb);have n2_:=Aside0.mk (blk_below (g:=gb242) (o:=.cells #[.slice A0_0 l0_0.length c0_0,.int .u64 a0_1,.slice A0_2 l0_2.length c0_2] 26 (0,0)) (vK BK242.out) hb);have n3_:=Aside0.mk (below_step (vBg HB.out GE242.out) hb);have n4_:=Aside0.mk (hbox);have n5_:=Aside0.mk ((by rw [hg];exact (below_size (vBg HB.out GE242.out)):w.heap.size≤gb251));have n6_:=Aside0.mk ((by rw [hg];exact (below_size (vBg HB.out GE242.out)):w.heap.size≤gb251));have n7_:=Aside0.mk ((by rw [hg];exact Nat.ne_of_lt (blk_lt (g:=gb242) (o:=.cells #[.slice A0_0 l0_0.length c0_0,.int .u64 a0_1,.slice A0_2 l0_2.length c0_2] 26 (0,0)) (vK BK242.out)):gb242≠gb251));have n8_:=Aside0.mk ((by rw [hg];exact Nat.ne_of_gt (blk_lt (g:=gb242) (o:=.cells #[.slice A0_0 l0_0.length c0_0,.int .u64 a0_1,.slice A0_2 l0_2.length c0_2] 26 (0,0)) (vK BK242.out)):gb251≠gb242));clear HO245;clear HO249;clear BK242;clear HB;have HO245:=n0_;have HO249:=n1_;have BK242:=n2_;have HB:=n3_;have BK251:=n4_;have GW251:=n5_;have GE251:=n6_;have NB242_251:=n7_;have NB251_242:=n8_;clear n0_ n1_ n2_ n3_ n4_ n5_ n6_ n7_ n8_;clear hb hbox hg;obtain ⟨Ao39,co39,eo39⟩:=Kd.R_slice HO245.out;subst eo39;have hnb40:=NB251_242.out;have hnc40:=NB242_251.out;have hcz41_0:w38.cell? ⟨gb251,0,none⟩ = some (.slice none 0 0):=(blk_cell BK251.out 0).trans rfl;have hcz41_1:w38.cell? ⟨gb251,1,none⟩ = some (.int .u64 0):=(blk_cell BK251.out 1).trans rfl;have hcz41_2:w38.cell? ⟨gb251,2,none⟩ = some (.slice none 0 0):=(blk_cell BK251.out 2).trans rfl;have hfz41_0:=blk_frozen BK251.out 0;have hfz41_1:=blk_frozen BK251.out 1;have hfz41_2:=blk_frozen BK251.out 2;obtain ⟨Ao42,co42,eo42⟩:=Kd.R_slice HO249.out;subst eo42))
  go_ret
  exact ⟨by first | rfl | (simp [errW_none,errW_some] <;> rfl) | (simp [*,errW_none,errW_some] <;> rfl),by repeat (first | (with_reducible first | exact HB.out | apply below_alloc | apply pw_below_drewN | apply below_drew1 | refine below_set ?_ GE242.out | refine below_set ?_ GE251.out) | exact HB.out)⟩
def ring_Halved.T1:Bool × List (List Nat × List Nat):=(true,[([],[]),([],[]),([1],[1]),([2],[2]),([],[]),([],[]),([5],[5]),([0,3,4,6],[0,3,4,6]),([7],[7]),([8],[8]),([8],[8]),([9,7,0,1,2,3,4,5,6,7,8,9],[9]),([10,11,0,1,2,3,4,5,6,7,8,9,10,11],[10])])
def ring_Halved.B1:List Nat:=[0,0,2,6,0,0,32,127,255,511,511,1023,4095]
theorem ring_Halved.tab1:rtab .any (opsOf Try.f65 1) = ring_Halved.T1:=by kernel_rfl
theorem ring_Halved.bits1:waitsOk ring_Halved.T1.2 ring_Halved.B1 = true:=by kernel_rfl
end Go.Proofs.Ytonpekldcnankaa.X
