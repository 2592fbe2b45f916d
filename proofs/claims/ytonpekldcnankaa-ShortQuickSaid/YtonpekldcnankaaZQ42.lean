/- Texts of the walk and of the plain laws, laid together by a program: X51, PsShortQuick, Sp9, PureShortQuick. -/
import Derived.Test.YtonpekldcnankaaZQ40
import Derived.Test.YtonpekldcnankaaZQ41
section
namespace Go.Proofs.Ytonpekldcnankaa.X
open Go.RowKit Go.Proofs.YtonpekldcnankaaW.PrintWords Go.Proofs.YtonpekldcnankaaW.PrintLast Go.Proofs.YtonpekldcnankaaW.PrintMore
attribute [local go_sem] max2_int min2_int max_two min_two max_three min_three max_four min_four
set_option linter.unusedVariables false
set_option linter.unusedSimpArgs false
def sconcelaw09_ShortQuick.f (k:Nat) (l0_0:List Int) (a0_1:Int) (l0_2:List Int) (l1:List Int) (l2:List Int):Option (Bool):=(sconcelaw09_awake.f k).bind fun t733 => (if t733 = true then ((sconcelaw08_Few.f k l0_0 a0_1 l0_2 l1 l2).bind fun t734 => (if t734 = true then ((short_Quick.f k l0_0 a0_1 l0_2 l1 l2).bind fun bt735 => ((sconceref08_Exp.f k l0_0 a0_1 l0_2 l1 l2).bind fun bt739 => (if bt735.2 = bt739.2 then ((sconceref03_Same.f k bt735.1 bt739.1).bind fun t743 => (some t743)) else (some false)))) else (some true))) else (some false))
set_option maxHeartbeats 8000000 in
set_option maxRecDepth 100000 in
theorem sconcelaw09_ShortQuick.calls (k:Nat) (A0_0:Option Addr) (c0_0:Nat) (l0_0:List Int) (a0_1:Int) (A0_2:Option Addr) (c0_2:Nat) (l0_2:List Int) (A1:Option Addr) (c1:Nat) (l1:List Int) (A2:Option Addr) (c2:Nat) (l2:List Int) (r:Bool) (w:World) (hr0_0:Kd.C (Kd.int .u64) w A0_0 l0_0.length l0_0) (hc0_0:l0_0.length≤c0_0) (hr0_2:Kd.C (Kd.int .u64) w A0_2 l0_2.length l0_2) (hc0_2:l0_2.length≤c0_2) (hr1:Kd.C (Kd.int .u64) w A1 l1.length l1) (hc1:l1.length≤c1) (hr2:Kd.C (Kd.int .u64) w A2 l2.length l2) (hc2:l2.length≤c2) (h:sconcelaw09_ShortQuick.f k l0_0 a0_1 l0_2 l1 l2 = some r) :
  Calls Try.prog 9 #[.agg #[.slice A0_0 l0_0.length c0_0,.int .u64 a0_1,.slice A0_2 l0_2.length c0_2],.slice A1 l1.length c1,.slice A2 l2.length c2] w fun e w' => e = .returned (.bool r)∧Below w.heap.size w w':=by
 have hu26:=Try.underlying26
 have HR0_0:=Aside0.mk hr0_0
 have HC0_0:=Aside0.mk hc0_0
 clear hr0_0 hc0_0
 have HR0_2:=Aside0.mk hr0_2
 have HC0_2:=Aside0.mk hc0_2
 clear hr0_2 hc0_2
 have HR1:=Aside0.mk hr1
 have HC1:=Aside0.mk hc1
 clear hr1 hc1
 have HR2:=Aside0.mk hr2
 have HC2:=Aside0.mk hc2
 clear hr2 hc2
 have HB:=Aside0.mk (Below.refl w.heap.size w)
 have H:((sconcelaw09_awake.f k).bind fun t733 => (if t733 = true then ((sconcelaw08_Few.f k l0_0 a0_1 l0_2 l1 l2).bind fun t734 => (if t734 = true then ((short_Quick.f k l0_0 a0_1 l0_2 l1 l2).bind fun bt735 => ((sconceref08_Exp.f k l0_0 a0_1 l0_2 l1 l2).bind fun bt739 => (if bt735.2 = bt739.2 then ((sconceref03_Same.f k bt735.1 bt739.1).bind fun t743 => (some t743)) else (some false)))) else (some true))) else (some false))) = some r:=h
 clear h
 replace H:=Option.bind_eq_some_iff.mp H
 obtain ⟨t733,A40,H⟩:=H
 replace H:(if t733 = true then ((sconcelaw08_Few.f k l0_0 a0_1 l0_2 l1 l2).bind fun t734 => (if t734 = true then ((short_Quick.f k l0_0 a0_1 l0_2 l1 l2).bind fun bt735 => ((sconceref08_Exp.f k l0_0 a0_1 l0_2 l1 l2).bind fun bt739 => (if bt735.2 = bt739.2 then ((sconceref03_Same.f k bt735.1 bt739.1).bind fun t743 => (some t743)) else (some false)))) else (some true))) else (some false)) = some r:=H
 have A4:=Aside0.mk A40
 clear A40
 by_cases c5:t733 = true
 ·
  subst c5
  have H1:((sconcelaw08_Few.f k l0_0 a0_1 l0_2 l1 l2).bind fun t734 => (if t734 = true then ((short_Quick.f k l0_0 a0_1 l0_2 l1 l2).bind fun bt735 => ((sconceref08_Exp.f k l0_0 a0_1 l0_2 l1 l2).bind fun bt739 => (if bt735.2 = bt739.2 then ((sconceref03_Same.f k bt735.1 bt739.1).bind fun t743 => (some t743)) else (some false)))) else (some true))) = some r:=by rw [if_pos rfl] at H;exact H
  clear H
  have H:=H1
  clear H1
  replace H:=Option.bind_eq_some_iff.mp H
  obtain ⟨t734,A60,H⟩:=H
  replace H:(if t734 = true then ((short_Quick.f k l0_0 a0_1 l0_2 l1 l2).bind fun bt735 => ((sconceref08_Exp.f k l0_0 a0_1 l0_2 l1 l2).bind fun bt739 => (if bt735.2 = bt739.2 then ((sconceref03_Same.f k bt735.1 bt739.1).bind fun t743 => (some t743)) else (some false)))) else (some true)) = some r:=H
  have A6:=Aside0.mk A60
  clear A60
  by_cases c7:t734 = true
  ·
   subst c7
   have H1:((short_Quick.f k l0_0 a0_1 l0_2 l1 l2).bind fun bt735 => ((sconceref08_Exp.f k l0_0 a0_1 l0_2 l1 l2).bind fun bt739 => (if bt735.2 = bt739.2 then ((sconceref03_Same.f k bt735.1 bt739.1).bind fun t743 => (some t743)) else (some false)))) = some r:=by rw [if_pos rfl] at H;exact H
   clear H
   have H:=H1
   clear H1
   replace H:=Option.bind_eq_some_iff.mp H
   obtain ⟨⟨t735,t738⟩,A80,H⟩:=H
   replace H:((sconceref08_Exp.f k l0_0 a0_1 l0_2 l1 l2).bind fun bt739 => (if t738 = bt739.2 then ((sconceref03_Same.f k t735 bt739.1).bind fun t743 => (some t743)) else (some false))) = some r:=H
   have A8:=Aside0.mk A80
   clear A80
   replace H:=Option.bind_eq_some_iff.mp H
   obtain ⟨⟨t739,t742⟩,A90,H⟩:=H
   replace H:(if t738 = t742 then ((sconceref03_Same.f k t735 t739).bind fun t743 => (some t743)) else (some false)) = some r:=H
   have A9:=Aside0.mk A90
   clear A90
   by_cases c10:t738 = t742
   ·
    rw [if_pos c10] at H
    have c10b0:(t738 == t742) = true:=beq_iff_eq.mpr c10
    have c10b1:(t738 != t742) = false:=bne_eq_false_iff_eq.mpr c10
    clear c10
    replace H:=Option.bind_eq_some_iff.mp H
    obtain ⟨t743,A110,H⟩:=H
    replace H:(some t743) = some r:=H
    have A11:=Aside0.mk A110
    clear A110
    obtain rfl:=Option.some.inj H
    go_enter Try.func9,Try.ntmps9
    go_wp2_with (first | ((with_reducible refine gate_dst (N:=3) rfl ?_);refine box_event ?hg (N:=3) ?hd (cs:=#[.slice A0_0 l0_0.length c0_0,.int .u64 a0_1,.slice A0_2 l0_2.length c0_2]) (t:=26) ?hr ?_;(case hd => rfl);(case hg => rfl);(case hr => first | (go_simp;done) | (go_simp;rfl));intro gb732 hg w12 hbox hb;have n0_:=Aside0.mk (below_step (vB HB.out) hb);have n1_:=Aside0.mk (hbox);have n2_:=Aside0.mk ((by rw [hg];exact (below_size (vB HB.out)):w.heap.size≤gb732));have n3_:=Aside0.mk ((by rw [hg];exact (below_size (vB HB.out)):w.heap.size≤gb732));clear HB;have HB:=n0_;have BK732:=n1_;have GW732:=n2_;have GE732:=n3_;clear n0_ n1_ n2_ n3_;clear hb hbox hg) | ((with_reducible refine gate_callee (f:=37) rfl ?_);refine goesL_ (some 11) rfl rfl Try.func37 (by kernel_rfl) rfl #[] rfl vA ?_;(with_reducible refine (sconcelaw09_awake.calls k  true _ A4.out).mono ?_);rintro e w13 ⟨rfl,hb⟩;refine ⟨_,rfl,?_⟩;have n0_:=Aside0.mk (blk_below (g:=gb732) (o:=.cells #[.slice A0_0 l0_0.length c0_0,.int .u64 a0_1,.slice A0_2 l0_2.length c0_2] 26 (0,0)) (vK BK732.out) hb);have n1_:=Aside0.mk (below_step (vBg HB.out GE732.out) hb);clear BK732;clear HB;have BK732:=n0_;have HB:=n1_;clear n0_ n1_;(try clear hb);(try clear hb2);(try clear hk);(try clear hi);have hcz14_0:w13.cell? ⟨gb732,0,none⟩ = some (.slice A0_0 l0_0.length c0_0):=(blk_cell BK732.out 0).trans rfl;have hcz14_1:w13.cell? ⟨gb732,1,none⟩ = some (.int .u64 a0_1):=(blk_cell BK732.out 1).trans rfl;have hcz14_2:w13.cell? ⟨gb732,2,none⟩ = some (.slice A0_2 l0_2.length c0_2):=(blk_cell BK732.out 2).trans rfl;have hfz14_0:=blk_frozen BK732.out 0;have hfz14_1:=blk_frozen BK732.out 1;have hfz14_2:=blk_frozen BK732.out 2) | ((with_reducible refine gate_callee (f:=38) rfl ?_);refine goesL_ (some 16) rfl rfl Try.func38 (by kernel_rfl) rfl #[.agg #[.slice A0_0 l0_0.length c0_0,.int .u64 a0_1,.slice A0_2 l0_2.length c0_2],.slice A1 l1.length c1,.slice A2 l2.length c2] rfl vA ?_;(with_reducible refine (sconcelaw08_Few.calls k _ _ l0_0 a0_1 _ _ l0_2 _ _ l1 _ _ l2 true _ ?side1 ?side2 ?side3 ?side4 ?side5 ?side6 ?side7 ?side8 A6.out).mono ?_);(case side1 => repeat (first | exact (Kd.C_below HR0_0.out HB.out) | (with_reducible refine Kd.C_alloc ?_ _) | (with_reducible refine Kd.C_drewN ?_ _) | (with_reducible refine Kd.C_drew ?_)));(case side2 => exact HC0_0.out);(case side3 => repeat (first | exact (Kd.C_below HR0_2.out HB.out) | (with_reducible refine Kd.C_alloc ?_ _) | (with_reducible refine Kd.C_drewN ?_ _) | (with_reducible refine Kd.C_drew ?_)));(case side4 => exact HC0_2.out);(case side5 => repeat (first | exact (Kd.C_below HR1.out HB.out) | (with_reducible refine Kd.C_alloc ?_ _) | (with_reducible refine Kd.C_drewN ?_ _) | (with_reducible refine Kd.C_drew ?_)));(case side6 => exact HC1.out);(case side7 => repeat (first | exact (Kd.C_below HR2.out HB.out) | (with_reducible refine Kd.C_alloc ?_ _) | (with_reducible refine Kd.C_drewN ?_ _) | (with_reducible refine Kd.C_drew ?_)));(case side8 => exact HC2.out);rintro e w15 ⟨rfl,hb⟩;refine ⟨_,rfl,?_⟩;have n0_:=Aside0.mk (blk_below (g:=gb732) (o:=.cells #[.slice A0_0 l0_0.length c0_0,.int .u64 a0_1,.slice A0_2 l0_2.length c0_2] 26 (0,0)) (vK BK732.out) hb);have n1_:=Aside0.mk (below_step (vBg HB.out GE732.out) hb);clear BK732;clear HB;have BK732:=n0_;have HB:=n1_;clear n0_ n1_;(try clear hb);(try clear hb2);(try clear hk);(try clear hi);have hcz16_0:w15.cell? ⟨gb732,0,none⟩ = some (.slice A0_0 l0_0.length c0_0):=(blk_cell BK732.out 0).trans rfl;have hcz16_1:w15.cell? ⟨gb732,1,none⟩ = some (.int .u64 a0_1):=(blk_cell BK732.out 1).trans rfl;have hcz16_2:w15.cell? ⟨gb732,2,none⟩ = some (.slice A0_2 l0_2.length c0_2):=(blk_cell BK732.out 2).trans rfl;have hfz16_0:=blk_frozen BK732.out 0;have hfz16_1:=blk_frozen BK732.out 1;have hfz16_2:=blk_frozen BK732.out 2) | ((with_reducible refine gate_callee (f:=41) rfl ?_);refine goesL_ (some 22) rfl rfl Try.func41 (by kernel_rfl) rfl #[.agg #[.slice A0_0 l0_0.length c0_0,.int .u64 a0_1,.slice A0_2 l0_2.length c0_2],.slice A1 l1.length c1,.slice A2 l2.length c2] rfl vA ?_;(with_reducible refine (short_Quick.calls k _ _ l0_0 a0_1 _ _ l0_2 _ _ l1 _ _ l2 t735 t738 _ ?side1 ?side2 ?side3 ?side4 ?side5 ?side6 ?side7 ?side8 A8.out).mono ?_);(case side1 => repeat (first | exact (Kd.C_below HR0_0.out HB.out) | (with_reducible refine Kd.C_alloc ?_ _) | (with_reducible refine Kd.C_drewN ?_ _) | (with_reducible refine Kd.C_drew ?_)));(case side2 => exact HC0_0.out);(case side3 => repeat (first | exact (Kd.C_below HR0_2.out HB.out) | (with_reducible refine Kd.C_alloc ?_ _) | (with_reducible refine Kd.C_drewN ?_ _) | (with_reducible refine Kd.C_drew ?_)));(case side4 => exact HC0_2.out);(case side5 => repeat (first | exact (Kd.C_below HR1.out HB.out) | (with_reducible refine Kd.C_alloc ?_ _) | (with_reducible refine Kd.C_drewN ?_ _) | (with_reducible refine Kd.C_drew ?_)));(case side6 => exact HC1.out);(case side7 => repeat (first | exact (Kd.C_below HR2.out HB.out) | (with_reducible refine Kd.C_alloc ?_ _) | (with_reducible refine Kd.C_drewN ?_ _) | (with_reducible refine Kd.C_drew ?_)));(case side8 => exact HC2.out);rintro e w17 ⟨v736,rfl,ho0,hb⟩;refine ⟨_,rfl,?_⟩;have n0_:=Aside0.mk (Kd.R_lower ho0 (below_size (vBg HB.out GE732.out)));have n1_:=Aside0.mk (blk_below (g:=gb732) (o:=.cells #[.slice A0_0 l0_0.length c0_0,.int .u64 a0_1,.slice A0_2 l0_2.length c0_2] 26 (0,0)) (vK BK732.out) hb);have n2_:=Aside0.mk (below_step (vBg HB.out GE732.out) hb);clear BK732;clear HB;have HO737:=n0_;have BK732:=n1_;have HB:=n2_;clear n0_ n1_ n2_;(try clear hb);(try clear hb2);(try clear hk);(try clear hi);(try clear ho0);have hcz18_0:w17.cell? ⟨gb732,0,none⟩ = some (.slice A0_0 l0_0.length c0_0):=(blk_cell BK732.out 0).trans rfl;have hcz18_1:w17.cell? ⟨gb732,1,none⟩ = some (.int .u64 a0_1):=(blk_cell BK732.out 1).trans rfl;have hcz18_2:w17.cell? ⟨gb732,2,none⟩ = some (.slice A0_2 l0_2.length c0_2):=(blk_cell BK732.out 2).trans rfl;have hfz18_0:=blk_frozen BK732.out 0;have hfz18_1:=blk_frozen BK732.out 1;have hfz18_2:=blk_frozen BK732.out 2) | ((with_reducible refine gate_callee (f:=40) rfl ?_);refine goesL_ (some 29) rfl rfl Try.func40 (by kernel_rfl) rfl #[.agg #[.slice A0_0 l0_0.length c0_0,.int .u64 a0_1,.slice A0_2 l0_2.length c0_2],.slice A1 l1.length c1,.slice A2 l2.length c2] rfl vA ?_;(with_reducible refine (sconceref08_Exp.calls k _ _ l0_0 a0_1 _ _ l0_2 _ _ l1 _ _ l2 t739 t742 _ ?side1 ?side2 ?side3 ?side4 ?side5 ?side6 ?side7 ?side8 A9.out).mono ?_);(case side1 => repeat (first | exact (Kd.C_below HR0_0.out HB.out) | (with_reducible refine Kd.C_alloc ?_ _) | (with_reducible refine Kd.C_drewN ?_ _) | (with_reducible refine Kd.C_drew ?_)));(case side2 => exact HC0_0.out);(case side3 => repeat (first | exact (Kd.C_below HR0_2.out HB.out) | (with_reducible refine Kd.C_alloc ?_ _) | (with_reducible refine Kd.C_drewN ?_ _) | (with_reducible refine Kd.C_drew ?_)));(case side4 => exact HC0_2.out);(case side5 => repeat (first | exact (Kd.C_below HR1.out HB.out) | (with_reducible refine Kd.C_alloc ?_ _) | (with_reducible refine Kd.C_drewN ?_ _) | (with_reducible refine Kd.C_drew ?_)));(case side6 => exact HC1.out);(case side7 => repeat (first | exact (Kd.C_below HR2.out HB.out) | (with_reducible refine Kd.C_alloc ?_ _) | (with_reducible refine Kd.C_drewN ?_ _) | (with_reducible refine Kd.C_drew ?_)));(case side8 => exact HC2.out);rintro e w19 ⟨v740,rfl,ho0,hb⟩;refine ⟨_,rfl,?_⟩;have n0_:=Aside0.mk (Kd.R_elder' (vR HO737.out) (Kd.R_base ho0) hb);have n1_:=Aside0.mk (Kd.R_lower (Kd.R_new' ho0 (Kd.R_lt (vR HO737.out))) (below_size (vBg HB.out GE732.out)));have n2_:=Aside0.mk (blk_below (g:=gb732) (o:=.cells #[.slice A0_0 l0_0.length c0_0,.int .u64 a0_1,.slice A0_2 l0_2.length c0_2] 26 (0,0)) (vK BK732.out) hb);have n3_:=Aside0.mk (below_step (vBg HB.out GE732.out) hb);clear HO737;clear BK732;clear HB;have HO737:=n0_;have HO741:=n1_;have BK732:=n2_;have HB:=n3_;clear n0_ n1_ n2_ n3_;(try clear hb);(try clear hb2);(try clear hk);(try clear hi);(try clear ho0);obtain ⟨Ao20,co20,eo20⟩:=Kd.R_slice HO737.out;subst eo20;obtain ⟨Ao21,co21,eo21⟩:=Kd.R_slice HO741.out;subst eo21) | (go_at_call 21;(with_reducible refine (sconceref03_Same.calls k _ _ t735 _ _ t739 t743 _ ?side1 ?side2 ?side3 ?side4 A11.out).mono ?_);(case side1 => repeat (first | exact (Kd.R_reads' HO737.out).2.2 | (with_reducible refine Kd.C_alloc ?_ _) | (with_reducible refine Kd.C_drewN ?_ _) | (with_reducible refine Kd.C_drew ?_)));(case side2 => exact (Kd.R_reads' HO737.out).2.1);(case side3 => repeat (first | exact (Kd.R_reads' HO741.out).2.2 | (with_reducible refine Kd.C_alloc ?_ _) | (with_reducible refine Kd.C_drewN ?_ _) | (with_reducible refine Kd.C_drew ?_)));(case side4 => exact (Kd.R_reads' HO741.out).2.1);rintro e w' ⟨rfl,⟨nd,rfl⟩⟩))
    go_ret
    exact ⟨by first | rfl | (simp [errW_none,errW_some] <;> rfl) | (simp [*,errW_none,errW_some] <;> rfl),by repeat (first | (with_reducible first | exact HB.out | apply below_alloc | apply pw_below_drewN | apply below_drew1 | refine below_set ?_ GE732.out) | exact HB.out)⟩
   ·
    rw [if_neg c10] at H
    have c10b0:(t738 == t742) = false:=beq_eq_false_iff_ne.mpr c10
    have c10b1:(t738 != t742) = true:=bne_iff_ne.mpr c10
    obtain rfl:=Option.some.inj H
    go_enter Try.func9,Try.ntmps9
    go_wp2_with (first | ((with_reducible refine gate_dst (N:=3) rfl ?_);refine box_event ?hg (N:=3) ?hd (cs:=#[.slice A0_0 l0_0.length c0_0,.int .u64 a0_1,.slice A0_2 l0_2.length c0_2]) (t:=26) ?hr ?_;(case hd => rfl);(case hg => rfl);(case hr => first | (go_simp;done) | (go_simp;rfl));intro gb732 hg w22 hbox hb;have n0_:=Aside0.mk (below_step (vB HB.out) hb);have n1_:=Aside0.mk (hbox);have n2_:=Aside0.mk ((by rw [hg];exact (below_size (vB HB.out)):w.heap.size≤gb732));have n3_:=Aside0.mk ((by rw [hg];exact (below_size (vB HB.out)):w.heap.size≤gb732));clear HB;have HB:=n0_;have BK732:=n1_;have GW732:=n2_;have GE732:=n3_;clear n0_ n1_ n2_ n3_;clear hb hbox hg) | ((with_reducible refine gate_callee (f:=37) rfl ?_);refine goesL_ (some 11) rfl rfl Try.func37 (by kernel_rfl) rfl #[] rfl vA ?_;(with_reducible refine (sconcelaw09_awake.calls k  true _ A4.out).mono ?_);rintro e w23 ⟨rfl,hb⟩;refine ⟨_,rfl,?_⟩;have n0_:=Aside0.mk (blk_below (g:=gb732) (o:=.cells #[.slice A0_0 l0_0.length c0_0,.int .u64 a0_1,.slice A0_2 l0_2.length c0_2] 26 (0,0)) (vK BK732.out) hb);have n1_:=Aside0.mk (below_step (vBg HB.out GE732.out) hb);clear BK732;clear HB;have BK732:=n0_;have HB:=n1_;clear n0_ n1_;(try clear hb);(try clear hb2);(try clear hk);(try clear hi);have hcz24_0:w23.cell? ⟨gb732,0,none⟩ = some (.slice A0_0 l0_0.length c0_0):=(blk_cell BK732.out 0).trans rfl;have hcz24_1:w23.cell? ⟨gb732,1,none⟩ = some (.int .u64 a0_1):=(blk_cell BK732.out 1).trans rfl;have hcz24_2:w23.cell? ⟨gb732,2,none⟩ = some (.slice A0_2 l0_2.length c0_2):=(blk_cell BK732.out 2).trans rfl;have hfz24_0:=blk_frozen BK732.out 0;have hfz24_1:=blk_frozen BK732.out 1;have hfz24_2:=blk_frozen BK732.out 2) | ((with_reducible refine gate_callee (f:=38) rfl ?_);refine goesL_ (some 16) rfl rfl Try.func38 (by kernel_rfl) rfl #[.agg #[.slice A0_0 l0_0.length c0_0,.int .u64 a0_1,.slice A0_2 l0_2.length c0_2],.slice A1 l1.length c1,.slice A2 l2.length c2] rfl vA ?_;(with_reducible refine (sconcelaw08_Few.calls k _ _ l0_0 a0_1 _ _ l0_2 _ _ l1 _ _ l2 true _ ?side1 ?side2 ?side3 ?side4 ?side5 ?side6 ?side7 ?side8 A6.out).mono ?_);(case side1 => repeat (first | exact (Kd.C_below HR0_0.out HB.out) | (with_reducible refine Kd.C_alloc ?_ _) | (with_reducible refine Kd.C_drewN ?_ _) | (with_reducible refine Kd.C_drew ?_)));(case side2 => exact HC0_0.out);(case side3 => repeat (first | exact (Kd.C_below HR0_2.out HB.out) | (with_reducible refine Kd.C_alloc ?_ _) | (with_reducible refine Kd.C_drewN ?_ _) | (with_reducible refine Kd.C_drew ?_)));(case side4 => exact HC0_2.out);(case side5 => repeat (first | exact (Kd.C_below HR1.out HB.out) | (with_reducible refine Kd.C_alloc ?_ _) | (with_reducible refine Kd.C_drewN ?_ _) | (with_reducible refine Kd.C_drew ?_)));(case side6 => exact HC1.out);(case side7 => repeat (first | exact (Kd.C_below HR2.out HB.out) | (with_reducible refine Kd.C_alloc ?_ _) | (with_reducible refine Kd.C_drewN ?_ _) | (with_reducible refine Kd.C_drew ?_)));(case side8 => exact HC2.out);rintro e w25 ⟨rfl,hb⟩;refine ⟨_,rfl,?_⟩;have n0_:=Aside0.mk (blk_below (g:=gb732) (o:=.cells #[.slice A0_0 l0_0.length c0_0,.int .u64 a0_1,.slice A0_2 l0_2.length c0_2] 26 (0,0)) (vK BK732.out) hb);have n1_:=Aside0.mk (below_step (vBg HB.out GE732.out) hb);clear BK732;clear HB;have BK732:=n0_;have HB:=n1_;clear n0_ n1_;(try clear hb);(try clear hb2);(try clear hk);(try clear hi);have hcz26_0:w25.cell? ⟨gb732,0,none⟩ = some (.slice A0_0 l0_0.length c0_0):=(blk_cell BK732.out 0).trans rfl;have hcz26_1:w25.cell? ⟨gb732,1,none⟩ = some (.int .u64 a0_1):=(blk_cell BK732.out 1).trans rfl;have hcz26_2:w25.cell? ⟨gb732,2,none⟩ = some (.slice A0_2 l0_2.length c0_2):=(blk_cell BK732.out 2).trans rfl;have hfz26_0:=blk_frozen BK732.out 0;have hfz26_1:=blk_frozen BK732.out 1;have hfz26_2:=blk_frozen BK732.out 2) | ((with_reducible refine gate_callee (f:=41) rfl ?_);refine goesL_ (some 22) rfl rfl Try.func41 (by kernel_rfl) rfl #[.agg #[.slice A0_0 l0_0.length c0_0,.int .u64 a0_1,.slice A0_2 l0_2.length c0_2],.slice A1 l1.length c1,.slice A2 l2.length c2] rfl vA ?_;(with_reducible refine (short_Quick.calls k _ _ l0_0 a0_1 _ _ l0_2 _ _ l1 _ _ l2 t735 t738 _ ?side1 ?side2 ?side3 ?side4 ?side5 ?side6 ?side7 ?side8 A8.out).mono ?_);(case side1 => repeat (first | exact (Kd.C_below HR0_0.out HB.out) | (with_reducible refine Kd.C_alloc ?_ _) | (with_reducible refine Kd.C_drewN ?_ _) | (with_reducible refine Kd.C_drew ?_)));(case side2 => exact HC0_0.out);(case side3 => repeat (first | exact (Kd.C_below HR0_2.out HB.out) | (with_reducible refine Kd.C_alloc ?_ _) | (with_reducible refine Kd.C_drewN ?_ _) | (with_reducible refine Kd.C_drew ?_)));(case side4 => exact HC0_2.out);(case side5 => repeat (first | exact (Kd.C_below HR1.out HB.out) | (with_reducible refine Kd.C_alloc ?_ _) | (with_reducible refine Kd.C_drewN ?_ _) | (with_reducible refine Kd.C_drew ?_)));(case side6 => exact HC1.out);(case side7 => repeat (first | exact (Kd.C_below HR2.out HB.out) | (with_reducible refine Kd.C_alloc ?_ _) | (with_reducible refine Kd.C_drewN ?_ _) | (with_reducible refine Kd.C_drew ?_)));(case side8 => exact HC2.out);rintro e w27 ⟨v736,rfl,ho0,hb⟩;refine ⟨_,rfl,?_⟩;have n0_:=Aside0.mk (Kd.R_lower ho0 (below_size (vBg HB.out GE732.out)));have n1_:=Aside0.mk (blk_below (g:=gb732) (o:=.cells #[.slice A0_0 l0_0.length c0_0,.int .u64 a0_1,.slice A0_2 l0_2.length c0_2] 26 (0,0)) (vK BK732.out) hb);have n2_:=Aside0.mk (below_step (vBg HB.out GE732.out) hb);clear BK732;clear HB;have HO737:=n0_;have BK732:=n1_;have HB:=n2_;clear n0_ n1_ n2_;(try clear hb);(try clear hb2);(try clear hk);(try clear hi);(try clear ho0);have hcz28_0:w27.cell? ⟨gb732,0,none⟩ = some (.slice A0_0 l0_0.length c0_0):=(blk_cell BK732.out 0).trans rfl;have hcz28_1:w27.cell? ⟨gb732,1,none⟩ = some (.int .u64 a0_1):=(blk_cell BK732.out 1).trans rfl;have hcz28_2:w27.cell? ⟨gb732,2,none⟩ = some (.slice A0_2 l0_2.length c0_2):=(blk_cell BK732.out 2).trans rfl;have hfz28_0:=blk_frozen BK732.out 0;have hfz28_1:=blk_frozen BK732.out 1;have hfz28_2:=blk_frozen BK732.out 2) | ((with_reducible refine gate_callee (f:=40) rfl ?_);refine goesL_ (some 29) rfl rfl Try.func40 (by kernel_rfl) rfl #[.agg #[.slice A0_0 l0_0.length c0_0,.int .u64 a0_1,.slice A0_2 l0_2.length c0_2],.slice A1 l1.length c1,.slice A2 l2.length c2] rfl vA ?_;(with_reducible refine (sconceref08_Exp.calls k _ _ l0_0 a0_1 _ _ l0_2 _ _ l1 _ _ l2 t739 t742 _ ?side1 ?side2 ?side3 ?side4 ?side5 ?side6 ?side7 ?side8 A9.out).mono ?_);(case side1 => repeat (first | exact (Kd.C_below HR0_0.out HB.out) | (with_reducible refine Kd.C_alloc ?_ _) | (with_reducible refine Kd.C_drewN ?_ _) | (with_reducible refine Kd.C_drew ?_)));(case side2 => exact HC0_0.out);(case side3 => repeat (first | exact (Kd.C_below HR0_2.out HB.out) | (with_reducible refine Kd.C_alloc ?_ _) | (with_reducible refine Kd.C_drewN ?_ _) | (with_reducible refine Kd.C_drew ?_)));(case side4 => exact HC0_2.out);(case side5 => repeat (first | exact (Kd.C_below HR1.out HB.out) | (with_reducible refine Kd.C_alloc ?_ _) | (with_reducible refine Kd.C_drewN ?_ _) | (with_reducible refine Kd.C_drew ?_)));(case side6 => exact HC1.out);(case side7 => repeat (first | exact (Kd.C_below HR2.out HB.out) | (with_reducible refine Kd.C_alloc ?_ _) | (with_reducible refine Kd.C_drewN ?_ _) | (with_reducible refine Kd.C_drew ?_)));(case side8 => exact HC2.out);rintro e w29 ⟨v740,rfl,ho0,hb⟩;refine ⟨_,rfl,?_⟩;have n0_:=Aside0.mk (Kd.R_elder' (vR HO737.out) (Kd.R_base ho0) hb);have n1_:=Aside0.mk (Kd.R_lower (Kd.R_new' ho0 (Kd.R_lt (vR HO737.out))) (below_size (vBg HB.out GE732.out)));have n2_:=Aside0.mk (blk_below (g:=gb732) (o:=.cells #[.slice A0_0 l0_0.length c0_0,.int .u64 a0_1,.slice A0_2 l0_2.length c0_2] 26 (0,0)) (vK BK732.out) hb);have n3_:=Aside0.mk (below_step (vBg HB.out GE732.out) hb);clear HO737;clear BK732;clear HB;have HO737:=n0_;have HO741:=n1_;have BK732:=n2_;have HB:=n3_;clear n0_ n1_ n2_ n3_;(try clear hb);(try clear hb2);(try clear hk);(try clear hi);(try clear ho0)))
    go_ret
    exact ⟨by first | rfl | (simp [errW_none,errW_some] <;> rfl) | (simp [*,errW_none,errW_some] <;> rfl),by repeat (first | (with_reducible first | exact HB.out | apply below_alloc | apply pw_below_drewN | apply below_drew1 | refine below_set ?_ GE732.out) | exact HB.out)⟩
  ·
   replace c7:=Bool.eq_false_iff.mpr c7
   subst c7
   have H1:(some true) = some r:=by rw [if_neg (show ¬ (false = true) by decide)] at H;exact H
   clear H
   have H:=H1
   clear H1
   obtain rfl:=Option.some.inj H
   go_enter Try.func9,Try.ntmps9
   go_wp2_with (first | ((with_reducible refine gate_dst (N:=3) rfl ?_);refine box_event ?hg (N:=3) ?hd (cs:=#[.slice A0_0 l0_0.length c0_0,.int .u64 a0_1,.slice A0_2 l0_2.length c0_2]) (t:=26) ?hr ?_;(case hd => rfl);(case hg => rfl);(case hr => first | (go_simp;done) | (go_simp;rfl));intro gb732 hg w30 hbox hb;have n0_:=Aside0.mk (below_step (vB HB.out) hb);have n1_:=Aside0.mk (hbox);have n2_:=Aside0.mk ((by rw [hg];exact (below_size (vB HB.out)):w.heap.size≤gb732));have n3_:=Aside0.mk ((by rw [hg];exact (below_size (vB HB.out)):w.heap.size≤gb732));clear HB;have HB:=n0_;have BK732:=n1_;have GW732:=n2_;have GE732:=n3_;clear n0_ n1_ n2_ n3_;clear hb hbox hg) | ((with_reducible refine gate_callee (f:=37) rfl ?_);refine goesL_ (some 11) rfl rfl Try.func37 (by kernel_rfl) rfl #[] rfl vA ?_;(with_reducible refine (sconcelaw09_awake.calls k  true _ A4.out).mono ?_);rintro e w31 ⟨rfl,hb⟩;refine ⟨_,rfl,?_⟩;have n0_:=Aside0.mk (blk_below (g:=gb732) (o:=.cells #[.slice A0_0 l0_0.length c0_0,.int .u64 a0_1,.slice A0_2 l0_2.length c0_2] 26 (0,0)) (vK BK732.out) hb);have n1_:=Aside0.mk (below_step (vBg HB.out GE732.out) hb);clear BK732;clear HB;have BK732:=n0_;have HB:=n1_;clear n0_ n1_;(try clear hb);(try clear hb2);(try clear hk);(try clear hi);have hcz32_0:w31.cell? ⟨gb732,0,none⟩ = some (.slice A0_0 l0_0.length c0_0):=(blk_cell BK732.out 0).trans rfl;have hcz32_1:w31.cell? ⟨gb732,1,none⟩ = some (.int .u64 a0_1):=(blk_cell BK732.out 1).trans rfl;have hcz32_2:w31.cell? ⟨gb732,2,none⟩ = some (.slice A0_2 l0_2.length c0_2):=(blk_cell BK732.out 2).trans rfl;have hfz32_0:=blk_frozen BK732.out 0;have hfz32_1:=blk_frozen BK732.out 1;have hfz32_2:=blk_frozen BK732.out 2) | ((with_reducible refine gate_callee (f:=38) rfl ?_);refine goesL_ (some 16) rfl rfl Try.func38 (by kernel_rfl) rfl #[.agg #[.slice A0_0 l0_0.length c0_0,.int .u64 a0_1,.slice A0_2 l0_2.length c0_2],.slice A1 l1.length c1,.slice A2 l2.length c2] rfl vA ?_;(with_reducible refine (sconcelaw08_Few.calls k _ _ l0_0 a0_1 _ _ l0_2 _ _ l1 _ _ l2 false _ ?side1 ?side2 ?side3 ?side4 ?side5 ?side6 ?side7 ?side8 A6.out).mono ?_);(case side1 => repeat (first | exact (Kd.C_below HR0_0.out HB.out) | (with_reducible refine Kd.C_alloc ?_ _) | (with_reducible refine Kd.C_drewN ?_ _) | (with_reducible refine Kd.C_drew ?_)));(case side2 => exact HC0_0.out);(case side3 => repeat (first | exact (Kd.C_below HR0_2.out HB.out) | (with_reducible refine Kd.C_alloc ?_ _) | (with_reducible refine Kd.C_drewN ?_ _) | (with_reducible refine Kd.C_drew ?_)));(case side4 => exact HC0_2.out);(case side5 => repeat (first | exact (Kd.C_below HR1.out HB.out) | (with_reducible refine Kd.C_alloc ?_ _) | (with_reducible refine Kd.C_drewN ?_ _) | (with_reducible refine Kd.C_drew ?_)));(case side6 => exact HC1.out);(case side7 => repeat (first | exact (Kd.C_below HR2.out HB.out) | (with_reducible refine Kd.C_alloc ?_ _) | (with_reducible refine Kd.C_drewN ?_ _) | (with_reducible refine Kd.C_drew ?_)));(case side8 => exact HC2.out);rintro e w33 ⟨rfl,hb⟩;refine ⟨_,rfl,?_⟩;have n0_:=Aside0.mk (blk_below (g:=gb732) (o:=.cells #[.slice A0_0 l0_0.length c0_0,.int .u64 a0_1,.slice A0_2 l0_2.length c0_2] 26 (0,0)) (vK BK732.out) hb);have n1_:=Aside0.mk (below_step (vBg HB.out GE732.out) hb);clear BK732;clear HB;have BK732:=n0_;have HB:=n1_;clear n0_ n1_;(try clear hb);(try clear hb2);(try clear hk);(try clear hi)))
   go_ret
   exact ⟨by first | rfl | (simp [errW_none,errW_some] <;> rfl) | (simp [*,errW_none,errW_some] <;> rfl),by repeat (first | (with_reducible first | exact HB.out | apply below_alloc | apply pw_below_drewN | apply below_drew1 | refine below_set ?_ GE732.out) | exact HB.out)⟩
 ·
  replace c5:=Bool.eq_false_iff.mpr c5
  subst c5
  have H1:(some false) = some r:=by rw [if_neg (show ¬ (false = true) by decide)] at H;exact H
  clear H
  have H:=H1
  clear H1
  obtain rfl:=Option.some.inj H
  go_enter Try.func9,Try.ntmps9
  go_wp2_with (first | ((with_reducible refine gate_dst (N:=3) rfl ?_);refine box_event ?hg (N:=3) ?hd (cs:=#[.slice A0_0 l0_0.length c0_0,.int .u64 a0_1,.slice A0_2 l0_2.length c0_2]) (t:=26) ?hr ?_;(case hd => rfl);(case hg => rfl);(case hr => first | (go_simp;done) | (go_simp;rfl));intro gb732 hg w34 hbox hb;have n0_:=Aside0.mk (below_step (vB HB.out) hb);have n1_:=Aside0.mk (hbox);have n2_:=Aside0.mk ((by rw [hg];exact (below_size (vB HB.out)):w.heap.size≤gb732));have n3_:=Aside0.mk ((by rw [hg];exact (below_size (vB HB.out)):w.heap.size≤gb732));clear HB;have HB:=n0_;have BK732:=n1_;have GW732:=n2_;have GE732:=n3_;clear n0_ n1_ n2_ n3_;clear hb hbox hg) | ((with_reducible refine gate_callee (f:=37) rfl ?_);refine goesL_ (some 11) rfl rfl Try.func37 (by kernel_rfl) rfl #[] rfl vA ?_;(with_reducible refine (sconcelaw09_awake.calls k  false _ A4.out).mono ?_);rintro e w35 ⟨rfl,hb⟩;refine ⟨_,rfl,?_⟩;have n0_:=Aside0.mk (blk_below (g:=gb732) (o:=.cells #[.slice A0_0 l0_0.length c0_0,.int .u64 a0_1,.slice A0_2 l0_2.length c0_2] 26 (0,0)) (vK BK732.out) hb);have n1_:=Aside0.mk (below_step (vBg HB.out GE732.out) hb);clear BK732;clear HB;have BK732:=n0_;have HB:=n1_;clear n0_ n1_;(try clear hb);(try clear hb2);(try clear hk);(try clear hi)))
  go_ret
  exact ⟨by first | rfl | (simp [errW_none,errW_some] <;> rfl) | (simp [*,errW_none,errW_some] <;> rfl),by repeat (first | (with_reducible first | exact HB.out | apply below_alloc | apply pw_below_drewN | apply below_drew1 | refine below_set ?_ GE732.out) | exact HB.out)⟩
end Go.Proofs.Ytonpekldcnankaa.X
end
section
namespace Go.Proofs.Ytonpekldcnankaa.X
open Go.RowKit
def sconcelaw09_ShortQuick.PureS:Prop:=∀ (l0_0:List Int) (b0_1:Int) (l0_2:List Int) (l1:List Int) (l2:List Int),l0_0.length≤maxLen→(∀ x ∈ l0_0,(Lit.int .u64 x).wf = true)→(Lit.int .u64 b0_1).wf = true→l0_2.length≤maxLen→(∀ x ∈ l0_2,(Lit.int .u64 x).wf = true)→l1.length≤maxLen→(∀ x ∈ l1,(Lit.int .u64 x).wf = true)→l2.length≤maxLen→(∀ x ∈ l2,(Lit.int .u64 x).wf = true)→∃ k,sconcelaw09_ShortQuick.f k l0_0 b0_1 l0_2 l1 l2 = some true
end Go.Proofs.Ytonpekldcnankaa.X
end
section
namespace Go.Proofs.Ytonpekldcnankaa.X
open Go.RowKit Go.Proofs.YtonpekldcnankaaW.PrintWords Go.Proofs.YtonpekldcnankaaW.PrintMore Go.Proofs.YtonpekldcnankaaW.PrintLast Go.Proofs.Ytonpekldcnankaa.Ma
set_option linter.unusedVariables false
set_option linter.unusedSimpArgs false
theorem BitLen_loop {E:Nat} (hE:blen E≤1000000):∀ n:Nat,n≤1000000000→E < 2 ^ n→Ev (fun k => sconceref03_BitLen.l0 k (big E) (n:Int)) ((bl E:Nat):Int):=by
  intro n
  induction n with
  | zero =>
    intro _ h
    rw [Nat.pow_zero] at h
    rw [show E = 0 by omega,bl_zero]
    exact Ev.step (fun k => sconceref03_BitLen.l0.eq_2 ..) (ev_neg (by decide) (ev_const rfl))
  | succ n ih =>
    intro hn h
    have e1:wrap64 (((n + 1:Nat):Int) - 1) = (n:Int):=by rw [w64 (by omega) (by omega)];omega
    refine Ev.step (fun k => sconceref03_BitLen.l0.eq_2 ..) (ev_pos (by omega) ?_)
    rw [e1]
    refine ev_bind0 (sp_Bit hE (by omega)) ?_
    rcases Nat.lt_or_ge E (2 ^ n) with g | g
    · rw [Nat.div_eq_of_lt g]
      exact ev_pos rfl (ih (by omega) g)
    · have hb:=bl_eq g h
      have h1:E / 2 ^ n = 1:=Nat.div_eq_of_lt_le (by omega) (by rw [Nat.pow_succ] at h;omega)
      rw [h1,hb]
      exact ev_neg (by decide) (ev_const rfl)
theorem sp_BitLen {E:Nat} (hE:blen E≤1000000):Ev (fun k => sconceref03_BitLen.f k (big E)) ((bl E:Nat):Int):=by
  unfold sconceref03_BitLen.f
  rw [big_length,show wrap64 (32 * (blen E:Int)) = ((32 * blen E:Nat):Int) by rw [w64 (by omega) (by omega)];omega]
  refine BitLen_loop hE _ (by omega) ?_
  have:=blen_lt E
  rwa [H_pow] at this
theorem ExpMod_loop {a E m:Nat} (hm:m≠0) (ha:a < m) (bm:blen m≤10000) (bE:blen E≤100000):∀ j:Nat,j≤100000000→Ev (fun k => sconceref03_ExpMod.l0 k (big a) (big E) (big m) (big (a ^ (E / 2 ^ j) % m)) ((j:Int) - 1)) (big (a ^ E % m)):=by
  have bx:∀ y,blen (y % m)≤10000:=fun y => Nat.le_trans (blen_mono (Nat.le_of_lt (Nat.mod_lt _ (Nat.pos_of_ne_zero hm)))) bm
  have ba:blen a≤10000:=Nat.le_trans (blen_mono (Nat.le_of_lt ha)) bm
  intro j
  induction j with
  | zero =>
    intro _
    refine Ev.step (fun k => sconceref03_ExpMod.l0.eq_2 ..) (ev_neg (by decide) (ev_const ?_))
    rw [Nat.pow_zero,Nat.div_one]
  | succ j ih =>
    intro hj
    have e0:((j + 1:Nat):Int) - 1 = (j:Int):=by omega
    have e1:wrap64 ((j:Int) - 1) = (j:Int) - 1:=w64 (by omega) (by omega)
    rw [e0]
    refine Ev.step (fun k => sconceref03_ExpMod.l0.eq_2 ..) (ev_pos (by omega) (ev_bind (sp_MulMod hm (bx _) (bx _) bm) (ev_bind0 (sp_Bit (by omega) (by omega)) ?_)))
    rw [e1,← Nat.mul_mod,← Nat.pow_add]
    have hE:=ih (by omega)
    obtain ⟨y,hy⟩:∃ y,y = E / 2 ^ j:=⟨_,rfl⟩
    have h2:E / 2 ^ (j + 1) = y / 2:=by rw [Nat.pow_succ,← Nat.div_div_eq_div_mul,hy]
    rw [h2,← hy]
    rw [← hy] at hE
    by_cases c:y % 2 = 1
    · rw [c]
      refine ev_pos rfl (ev_bind (sp_MulMod hm (bx _) ba bm) ?_)
      have e:a ^ (y / 2 + y / 2) % m * a % m = a ^ y % m:=by
        rw [Nat.mod_mul_mod,← Nat.pow_succ,show (y / 2 + y / 2).succ = y by omega]
      rw [e]
      exact hE
    · rw [show y % 2 = 0 by omega]
      refine ev_neg (by decide) ?_
      rw [show y / 2 + y / 2 = y by omega]
      exact hE
theorem sp_ExpMod {a E m:Nat} (hm:m≠0) (ba:blen a≤10000) (bm:blen m≤10000) (bE:blen E≤100000):Ev (fun k => sconceref03_ExpMod.f k (big a) (big E) (big m)) (big (a ^ E % m)):=by
  have hd:∀ x,blen x≤10000→sconceref03_Mod.f (big x) (big m) = some (big (x % m)):=fun x hx => by
    unfold sconceref03_Mod.f
    rw [sp_ref_DivMod (by omega) (by omega) hm]
    rfl
  have hl:=ExpMod_loop (a:=a % m) (E:=E) hm (Nat.mod_lt _ (Nat.pos_of_ne_zero hm)) bm bE (bl E) (by
    have h1:bl E≤32 * blen E:=bl_le (by rw [← H_pow];exact blen_lt E)
    omega)
  have hz:E / 2 ^ bl E = 0:=Nat.div_eq_of_lt (bl_lt E)
  rw [hz,Nat.pow_zero,← Nat.pow_mod] at hl
  have hbl:bl E≤32 * blen E:=bl_le (by rw [← H_pow];exact blen_lt E)
  unfold sconceref03_ExpMod.f
  refine ev_bind (sp_Small (by decide)) (ev_bind0 (hd 1 (by decide)) (ev_bind0 (hd a ba) (ev_bind (sp_BitLen (by omega)) ?_)))
  rw [show wrap64 ((bl E:Int) - 1) = (bl E:Int) - 1 from w64 (by omega) (by omega)]
  exact hl
section
variable {m rr a e:List Int} {K:Int} {R:List Int × Int × List Int × Int}
theorem sp_ref8_Exp (hm:Wd m) (lm:m.length≤300) (hR:SetR (nW m) R) (ha:Wd a) (he:Wd e) (le:e.length≤1000) :
    Ev (fun k => sconceref08_Exp.f k m K rr a e) (if (chkB R m K rr && [a].all (memB m)) = true then (if 300 < e.length then ([],2) else (wds m.length (nW a ^ nW e % nW m),0)) else ([],1)):=by
  have hM:=sp_ref7_Members (K:=K) (rr:=rr) hm (by omega) hR [a] (by simp [ha]) (by simp)
  unfold sconceref08_Exp.f
  refine ev_bind hM ?_
  by_cases h:(chkB R m K rr && [a].all (memB m)) = true
  · have hI:=isMod_of_chk hR (Bool.and_eq_true_iff.1 h).1
    have m1:=mem_of_all (Bool.and_eq_true_iff.1 h).2 a (by simp)
    have h1:=hI.2.2.1
    have bm:=blen_nW hm
    have ba:=blen_nW ha
    have be:=blen_nW he
    rw [if_pos h]
    refine ev_pos h ?_
    by_cases hl:300 < e.length
    · rw [if_pos hl]
      exact ev_pos (by omega) (ev_const rfl)
    · rw [if_neg hl]
      exact ev_neg (by omega) (ev_bind (sp_OfW ha (by omega)) (ev_bind (sp_OfW he (by omega)) (ev_bind (sp_OfW hm (by omega)) (ev_bind (sp_ExpMod (by omega) (by omega) (by omega) (by omega)) (ev_bind (sp_Nat (by omega)) (ev_const rfl))))))
  · rw [if_neg h]
    exact ev_neg h (ev_const rfl)
theorem sp_short_Quick (hm:Wd m) (lm:m.length≤300) (hR:SetR (nW m) R) (ha:Wd a) (he:Wd e) (le:e.length≤1000) :
    Ev (fun k => short_Quick.f k m K rr a e) (if (chkB R m K rr && [a].all (memB m)) = true then (if 300 < e.length then ([],2) else (wds m.length (nW a ^ nW e % nW m),0)) else ([],1)):=by
  have hl1:∀ r ∈ [a],Wd r:=by simp [ha]
  have h1:Ev (fun k => ring_Neg.f k m K rr a) _:=sp_out (K:=K) (rr:=rr) hm lm hR hl1 (wds m.length ((nW m - nW a) % nW m))
  obtain ⟨S,s1,s2⟩:=sp_mont_Check (rr:=rr) (K:=K) hm (by omega)
  obtain rfl:=hR.uniq s1
  unfold short_Quick.f
  by_cases h:(chkB R m K rr && [a].all (memB m)) = true
  · obtain ⟨g1,g2⟩:=Bool.and_eq_true_iff.1 h
    rw [if_pos h] at h1 ⊢
    rw [g1] at s2
    refine ev_bind h1 (ev_pos rfl ?_)
    by_cases hl:300 < e.length
    · rw [if_pos hl]
      exact ev_pos (by omega) (ev_const rfl)
    · rw [if_neg hl]
      refine ev_neg (by omega) (ev_bind (a:=wds m.length (nW a ^ nW e % nW m)) ?_ (ev_const rfl))
      unfold short_Raw.f
      exact ev_pos ⟨Rg.ok_iff.2 ⟨⟨hm,hl1⟩,lm⟩,g2,wd_all.2 he,le⟩ (ev_bind s2 (ev_pos rfl (ev_const rfl)))
  · rw [if_neg h] at h1 ⊢
    exact ev_bind h1 (ev_neg (by decide) (ev_const rfl))
end
theorem sp_few8 (m:List Int) (K:Int) (rr a e:List Int):Ev (fun k => sconcelaw08_Few.f k m K rr a e) ((fewB 40 [m,rr] && fewB 40 [a]) && (decide (m.length≤10) && (decide (e.length≤6) || decide (e.length = 301)))):=by
  unfold sconcelaw08_Few.f
  refine ev_bind (sp_few7 m K rr [a] (by simp)) ?_
  by_cases h:(fewB 40 [m,rr] && fewB 40 [a]) = true
  · rw [h,Bool.true_and]
    refine ev_pos rfl ?_
    by_cases h2:m.length≤10
    · rw [decide_eq_true h2,Bool.true_and]
      refine ev_pos (by omega) ?_
      by_cases h3:e.length≤6
      · rw [decide_eq_true h3,Bool.true_or]
        exact ev_pos (by omega) (ev_const rfl)
      · rw [decide_eq_false h3,Bool.false_or]
        refine ev_neg (by omega) (ev_const ?_)
        congr 1
        by_cases h4:e.length = 301
        · rw [decide_eq_true h4];exact beq_iff_eq.2 (by omega)
        · rw [decide_eq_false h4];exact beq_eq_false_iff_ne.2 (by omega)
    · rw [decide_eq_false h2,Bool.false_and]
      exact ev_neg (by omega) (ev_const rfl)
  · rw [Bool.not_eq_true] at h
    rw [h,Bool.false_and]
    exact ev_neg (by decide) (ev_const rfl)
theorem awake9:Ev (fun k => sconcelaw09_awake.f k) true:=Ev.of (fun k => sconcelaw09_awake.mono k) (k:=130) (by kernel_rfl)
end Go.Proofs.Ytonpekldcnankaa.X
end
section
namespace Go.Proofs.Ytonpekldcnankaa.Pure
open Go.RowKit Go.Proofs.Ytonpekldcnankaa.X Go.Proofs.YtonpekldcnankaaW.PrintWords Go.Proofs.YtonpekldcnankaaW.PrintLast Go.Proofs.Ytonpekldcnankaa.Ma
set_option linter.unusedVariables false
set_option linter.unusedSimpArgs false
theorem ShortQuick:sconcelaw09_ShortQuick.PureS:=by
  intro m K rr a e _ hm _ _ _ _ ha _ he
  rw [wf_Wd] at hm ha he
  refine Ev.rounds ?_
  unfold sconcelaw09_ShortQuick.f
  refine ev_bind awake9 (ev_pos rfl (ev_bind (sp_few8 _ _ _ _ _) ?_))
  by_cases h:((fewB 40 [m,rr] && fewB 40 [a]) && (decide (m.length≤10) && (decide (e.length≤6) || decide (e.length = 301)))) = true
  · have h':((m.length≤40∧rr.length≤40)∧a.length≤40)∧m.length≤10∧(e.length≤6∨e.length = 301):=by simpa [fewB] using h
    obtain ⟨R,hR,_⟩:=sp_mont_Check (rr:=rr) (K:=K) hm (by omega)
    refine ev_pos h (ev_bind (sp_short_Quick hm (by omega) hR ha he (by omega)) (ev_bind (sp_ref8_Exp hm (by omega) hR ha he (by omega)) (ev_pos rfl (ev_bind (sp_Same ?_) (ev_const (by simp))))))
    split
    · split <;> simp [dgs_length]
      omega
    · simp
  · exact ev_neg h (ev_const rfl)
end Go.Proofs.Ytonpekldcnankaa.Pure
end
