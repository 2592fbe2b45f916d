/- Texts of the walk and of the plain laws, laid together by a program: X45. -/
import Derived.Test.YtonpekldcnankaaZC32
import Derived.Test.YtonpekldcnankaaZC38
set_option maxHeartbeats 8000000
set_option maxRecDepth 100000
namespace Go.Proofs.Ytonpekldcnankaa.X
open Go.RowKit Go.Proofs.YtonpekldcnankaaW.PrintWords Go.Proofs.YtonpekldcnankaaW.PrintLast Go.Proofs.YtonpekldcnankaaW.PrintMore
attribute [local go_sem] max2_int min2_int max_two min_two max_three min_three max_four min_four
set_option linter.unusedVariables false
set_option linter.unusedSimpArgs false
def short_Quick.f (k:Nat) (l0_0:List Int) (a0_1:Int) (l0_2:List Int) (l1:List Int) (l2:List Int):Option (List Int × Int):=(ring_Neg.f k l0_0 a0_1 l0_2 l1).bind fun bt684 => (if bt684.2 = 0 then (if (l2.length:Int) > 300 then (some (([]:List Int),2)) else ((short_Raw.f k l0_0 a0_1 l0_2 l1 l2).bind fun t688 => (some (t688,0)))) else (some (([]:List Int),bt684.2)))
theorem short_Quick.mono:∀ a0 a1 a2 a3 a4 k,LeO (short_Quick.f k a0 a1 a2 a3 a4) (short_Quick.f (k + 1) a0 a1 a2 a3 a4):=by
 intro a0 a1 a2 a3 a4 k
 unfold short_Quick.f
 repeat' first
   | (with_reducible exact ring_Neg.mono _ _ _ _ _)
   | (with_reducible exact short_Raw.mono _ _ _ _ _ _)
   | (with_reducible exact LeO.refl _)
   | (with_reducible exact LeO.none _)
   | (with_reducible refine LeO.ite ?_ ?_)
   | (with_reducible refine LeO.bind ?_ (fun _ => ?_))
   | exact ring_Neg.mono _ _ _ _ _
   | exact short_Raw.mono _ _ _ _ _ _
   | exact LeO.none _
   | refine LeO.ite ?_ ?_
   | refine LeO.bind ?_ (fun _ => ?_)
theorem short_Quick.calls (k:Nat) (A0_0:Option Addr) (c0_0:Nat) (l0_0:List Int) (a0_1:Int) (A0_2:Option Addr) (c0_2:Nat) (l0_2:List Int) (A1:Option Addr) (c1:Nat) (l1:List Int) (A2:Option Addr) (c2:Nat) (l2:List Int) (r1:List Int) (r2:Int) (w:World) (hr0_0:Kd.C (Kd.int .u64) w A0_0 l0_0.length l0_0) (hc0_0:l0_0.length≤c0_0) (hr0_2:Kd.C (Kd.int .u64) w A0_2 l0_2.length l0_2) (hc0_2:l0_2.length≤c0_2) (hr1:Kd.C (Kd.int .u64) w A1 l1.length l1) (hc1:l1.length≤c1) (hr2:Kd.C (Kd.int .u64) w A2 l2.length l2) (hc2:l2.length≤c2) (h:short_Quick.f k l0_0 a0_1 l0_2 l1 l2 = some (r1,r2)) :
  Calls Try.prog 41 #[.agg #[.slice A0_0 l0_0.length c0_0,.int .u64 a0_1,.slice A0_2 l0_2.length c0_2],.slice A1 l1.length c1,.slice A2 l2.length c2] w fun e w' => ∃ v0_:Value,e = .returned (.tuple #[v0_,.int .i64 r2])∧Kd.R (Kd.int .u64) 24 w' w.heap.size (fun _ => True) v0_ r1∧Below w.heap.size w w':=by
 have hu26:=Try.underlying26
 have HR0_0:=Aside0.mk hr0_0
 have HC0_0:=Aside0.mk hc0_0
 clear hr0_0 hc0_0
 have HR0_2:=Aside0.mk hr0_2
 have HC0_2:=Aside0.mk hc0_2
 clear hr0_2 hc0_2
 have HR1:=Aside0.mk hr1
 have HC1:=Aside0.mk hc1
 clear hr1 hc1
 have HR2:=Aside0.mk hr2
 have HC2:=Aside0.mk hc2
 clear hr2 hc2
 have HB:=Aside0.mk (Below.refl w.heap.size w)
 have H:((ring_Neg.f k l0_0 a0_1 l0_2 l1).bind fun bt684 => (if bt684.2 = 0 then (if (l2.length:Int) > 300 then (some (([]:List Int),2)) else ((short_Raw.f k l0_0 a0_1 l0_2 l1 l2).bind fun t688 => (some (t688,0)))) else (some (([]:List Int),bt684.2)))) = some (r1,r2):=h
 clear h
 replace H:=Option.bind_eq_some_iff.mp H
 obtain ⟨⟨t684,t687⟩,A40,H⟩:=H
 replace H:(if t687 = 0 then (if (l2.length:Int) > 300 then (some (([]:List Int),2)) else ((short_Raw.f k l0_0 a0_1 l0_2 l1 l2).bind fun t688 => (some (t688,0)))) else (some (([]:List Int),t687))) = some (r1,r2):=H
 have A4:=Aside0.mk A40
 clear A40
 by_cases c5:t687 = 0
 ·
  rw [if_pos c5] at H
  have c5b0:(t687 == 0) = true:=beq_iff_eq.mpr c5
  have c5b1:(t687 != 0) = false:=bne_eq_false_iff_eq.mpr c5
  clear c5
  by_cases c6:(l2.length:Int) > 300
  ·
   rw [if_pos c6] at H
   have c6b0:decide (300 < (l2.length:Int)) = true:=decide_eq_true c6
   have c6b1:decide (300 < l2.length) = true:=decide_eq_true (by omega)
   clear c6
   simp only [Option.some.injEq,Prod.mk.injEq] at H
   obtain ⟨rfl,rfl⟩:=H
   go_enter Try.func41,Try.ntmps41
   go_wp2_with (first | ((with_reducible refine gate_dst (N:=3) rfl ?_);refine box_event ?hg (N:=3) ?hd (cs:=#[.slice A0_0 l0_0.length c0_0,.int .u64 a0_1,.slice A0_2 l0_2.length c0_2]) (t:=26) ?hr ?_;(case hd => rfl);(case hg => rfl);(case hr => first | (go_simp;done) | (go_simp;rfl));intro gb683 hg w7 hbox hb;have n0_:=Aside0.mk (below_step (vB HB.out) hb);have n1_:=Aside0.mk (hbox);have n2_:=Aside0.mk ((by rw [hg];exact (below_size (vB HB.out)):w.heap.size≤gb683));have n3_:=Aside0.mk ((by rw [hg];exact (below_size (vB HB.out)):w.heap.size≤gb683));clear HB;have HB:=n0_;have BK683:=n1_;have GW683:=n2_;have GE683:=n3_;clear n0_ n1_ n2_ n3_;clear hb hbox hg;have hcz8_0:w7.cell? ⟨gb683,0,none⟩ = some (.slice A0_0 l0_0.length c0_0):=(blk_cell BK683.out 0).trans rfl;have hcz8_1:w7.cell? ⟨gb683,1,none⟩ = some (.int .u64 a0_1):=(blk_cell BK683.out 1).trans rfl;have hcz8_2:w7.cell? ⟨gb683,2,none⟩ = some (.slice A0_2 l0_2.length c0_2):=(blk_cell BK683.out 2).trans rfl;have hfz8_0:=blk_frozen BK683.out 0;have hfz8_1:=blk_frozen BK683.out 1;have hfz8_2:=blk_frozen BK683.out 2) | ((with_reducible refine gate_callee (f:=27) rfl ?_);refine goesL_ (some 13) rfl rfl Try.func27 (by kernel_rfl) rfl #[.pointer none,.agg #[.slice A0_0 l0_0.length c0_0,.int .u64 a0_1,.slice A0_2 l0_2.length c0_2],.slice A1 l1.length c1] rfl vA ?_;(with_reducible refine (ring_Neg.calls k  _ _ l0_0 a0_1 _ _ l0_2 _ _ l1 t684 t687 _ ?side1 ?side2 ?side3 ?side4 ?side5 ?side6 A4.out).mono ?_);(case side1 => repeat (first | exact (Kd.C_below HR0_0.out HB.out) | (with_reducible refine Kd.C_alloc ?_ _) | (with_reducible refine Kd.C_drewN ?_ _) | (with_reducible refine Kd.C_drew ?_)));(case side2 => exact HC0_0.out);(case side3 => repeat (first | exact (Kd.C_below HR0_2.out HB.out) | (with_reducible refine Kd.C_alloc ?_ _) | (with_reducible refine Kd.C_drewN ?_ _) | (with_reducible refine Kd.C_drew ?_)));(case side4 => exact HC0_2.out);(case side5 => repeat (first | exact (Kd.C_below HR1.out HB.out) | (with_reducible refine Kd.C_alloc ?_ _) | (with_reducible refine Kd.C_drewN ?_ _) | (with_reducible refine Kd.C_drew ?_)));(case side6 => exact HC1.out);rintro e w9 ⟨v685,rfl,ho0,hb⟩;refine ⟨_,rfl,?_⟩;have n0_:=Aside0.mk (Kd.R_lower ho0 (below_size (vBg HB.out GE683.out)));have n1_:=Aside0.mk (blk_below (g:=gb683) (o:=.cells #[.slice A0_0 l0_0.length c0_0,.int .u64 a0_1,.slice A0_2 l0_2.length c0_2] 26 (0,0)) (vK BK683.out) hb);have n2_:=Aside0.mk (below_step (vBg HB.out GE683.out) hb);clear BK683;clear HB;have HO686:=n0_;have BK683:=n1_;have HB:=n2_;clear n0_ n1_ n2_;(try clear hb);(try clear hb2);(try clear hk);(try clear hi);(try clear ho0)))
   go_ret2
   exact ⟨_,by first | rfl | (simp [errW_none,errW_some] <;> rfl) | (simp [*,errW_none,errW_some] <;> rfl),by first | exact Kd.R_nil _ _ _ _ _ | exact Kd.N_nil _ _ _ _ _ | exact Kd.V_nil _ _ _ _ _ | exact Kd.Q_nil _ _ _ _ _ | exact Kd.S_nil _ _ _ _ _,by repeat (first | (with_reducible first | exact HB.out | apply below_alloc | apply pw_below_drewN | apply below_drew1 | refine below_set ?_ GE683.out) | exact HB.out)⟩
  ·
   rw [if_neg c6] at H
   have c6b0:decide (300 < (l2.length:Int)) = false:=decide_eq_false c6
   have c6b1:decide (300 < l2.length) = false:=decide_eq_false (by omega)
   clear c6
   replace H:=Option.bind_eq_some_iff.mp H
   obtain ⟨t688,A100,H⟩:=H
   replace H:(some (t688,0)) = some (r1,r2):=H
   have A10:=Aside0.mk A100
   clear A100
   simp only [Option.some.injEq,Prod.mk.injEq] at H
   obtain ⟨rfl,rfl⟩:=H
   go_enter Try.func41,Try.ntmps41
   go_wp2_with (first | ((with_reducible refine gate_dst (N:=3) rfl ?_);refine box_event ?hg (N:=3) ?hd (cs:=#[.slice A0_0 l0_0.length c0_0,.int .u64 a0_1,.slice A0_2 l0_2.length c0_2]) (t:=26) ?hr ?_;(case hd => rfl);(case hg => rfl);(case hr => first | (go_simp;done) | (go_simp;rfl));intro gb683 hg w11 hbox hb;have n0_:=Aside0.mk (below_step (vB HB.out) hb);have n1_:=Aside0.mk (hbox);have n2_:=Aside0.mk ((by rw [hg];exact (below_size (vB HB.out)):w.heap.size≤gb683));have n3_:=Aside0.mk ((by rw [hg];exact (below_size (vB HB.out)):w.heap.size≤gb683));clear HB;have HB:=n0_;have BK683:=n1_;have GW683:=n2_;have GE683:=n3_;clear n0_ n1_ n2_ n3_;clear hb hbox hg;have hcz12_0:w11.cell? ⟨gb683,0,none⟩ = some (.slice A0_0 l0_0.length c0_0):=(blk_cell BK683.out 0).trans rfl;have hcz12_1:w11.cell? ⟨gb683,1,none⟩ = some (.int .u64 a0_1):=(blk_cell BK683.out 1).trans rfl;have hcz12_2:w11.cell? ⟨gb683,2,none⟩ = some (.slice A0_2 l0_2.length c0_2):=(blk_cell BK683.out 2).trans rfl;have hfz12_0:=blk_frozen BK683.out 0;have hfz12_1:=blk_frozen BK683.out 1;have hfz12_2:=blk_frozen BK683.out 2) | ((with_reducible refine gate_callee (f:=27) rfl ?_);refine goesL_ (some 13) rfl rfl Try.func27 (by kernel_rfl) rfl #[.pointer none,.agg #[.slice A0_0 l0_0.length c0_0,.int .u64 a0_1,.slice A0_2 l0_2.length c0_2],.slice A1 l1.length c1] rfl vA ?_;(with_reducible refine (ring_Neg.calls k  _ _ l0_0 a0_1 _ _ l0_2 _ _ l1 t684 t687 _ ?side1 ?side2 ?side3 ?side4 ?side5 ?side6 A4.out).mono ?_);(case side1 => repeat (first | exact (Kd.C_below HR0_0.out HB.out) | (with_reducible refine Kd.C_alloc ?_ _) | (with_reducible refine Kd.C_drewN ?_ _) | (with_reducible refine Kd.C_drew ?_)));(case side2 => exact HC0_0.out);(case side3 => repeat (first | exact (Kd.C_below HR0_2.out HB.out) | (with_reducible refine Kd.C_alloc ?_ _) | (with_reducible refine Kd.C_drewN ?_ _) | (with_reducible refine Kd.C_drew ?_)));(case side4 => exact HC0_2.out);(case side5 => repeat (first | exact (Kd.C_below HR1.out HB.out) | (with_reducible refine Kd.C_alloc ?_ _) | (with_reducible refine Kd.C_drewN ?_ _) | (with_reducible refine Kd.C_drew ?_)));(case side6 => exact HC1.out);rintro e w13 ⟨v685,rfl,ho0,hb⟩;refine ⟨_,rfl,?_⟩;have n0_:=Aside0.mk (Kd.R_lower ho0 (below_size (vBg HB.out GE683.out)));have n1_:=Aside0.mk (blk_below (g:=gb683) (o:=.cells #[.slice A0_0 l0_0.length c0_0,.int .u64 a0_1,.slice A0_2 l0_2.length c0_2] 26 (0,0)) (vK BK683.out) hb);have n2_:=Aside0.mk (below_step (vBg HB.out GE683.out) hb);clear BK683;clear HB;have HO686:=n0_;have BK683:=n1_;have HB:=n2_;clear n0_ n1_ n2_;(try clear hb);(try clear hb2);(try clear hk);(try clear hi);(try clear ho0);have hcz14_0:w13.cell? ⟨gb683,0,none⟩ = some (.slice A0_0 l0_0.length c0_0):=(blk_cell BK683.out 0).trans rfl;have hcz14_1:w13.cell? ⟨gb683,1,none⟩ = some (.int .u64 a0_1):=(blk_cell BK683.out 1).trans rfl;have hcz14_2:w13.cell? ⟨gb683,2,none⟩ = some (.slice A0_2 l0_2.length c0_2):=(blk_cell BK683.out 2).trans rfl;have hfz14_0:=blk_frozen BK683.out 0;have hfz14_1:=blk_frozen BK683.out 1;have hfz14_2:=blk_frozen BK683.out 2) | ((with_reducible refine gate_callee (f:=83) rfl ?_);refine goesL_ (some 25) rfl rfl Try.func83 (by kernel_rfl) rfl #[.agg #[.slice A0_0 l0_0.length c0_0,.int .u64 a0_1,.slice A0_2 l0_2.length c0_2],.slice A1 l1.length c1,.slice A2 l2.length c2] rfl vA ?_;(with_reducible refine (short_Raw.calls k _ _ l0_0 a0_1 _ _ l0_2 _ _ l1 _ _ l2 t688 _ ?side1 ?side2 ?side3 ?side4 ?side5 ?side6 ?side7 ?side8 A10.out).mono ?_);(case side1 => repeat (first | exact (Kd.C_below HR0_0.out HB.out) | (with_reducible refine Kd.C_alloc ?_ _) | (with_reducible refine Kd.C_drewN ?_ _) | (with_reducible refine Kd.C_drew ?_)));(case side2 => exact HC0_0.out);(case side3 => repeat (first | exact (Kd.C_below HR0_2.out HB.out) | (with_reducible refine Kd.C_alloc ?_ _) | (with_reducible refine Kd.C_drewN ?_ _) | (with_reducible refine Kd.C_drew ?_)));(case side4 => exact HC0_2.out);(case side5 => repeat (first | exact (Kd.C_below HR1.out HB.out) | (with_reducible refine Kd.C_alloc ?_ _) | (with_reducible refine Kd.C_drewN ?_ _) | (with_reducible refine Kd.C_drew ?_)));(case side6 => exact HC1.out);(case side7 => repeat (first | exact (Kd.C_below HR2.out HB.out) | (with_reducible refine Kd.C_alloc ?_ _) | (with_reducible refine Kd.C_drewN ?_ _) | (with_reducible refine Kd.C_drew ?_)));(case side8 => exact HC2.out);rintro e w15 ⟨v689,rfl,ho0,hb⟩;refine ⟨_,rfl,?_⟩;have n0_:=Aside0.mk (Kd.R_elder' (vR HO686.out) (Kd.R_base ho0) hb);have n1_:=Aside0.mk (Kd.R_lower (Kd.R_new' ho0 (Kd.R_lt (vR HO686.out))) (below_size (vBg HB.out GE683.out)));have n2_:=Aside0.mk (blk_below (g:=gb683) (o:=.cells #[.slice A0_0 l0_0.length c0_0,.int .u64 a0_1,.slice A0_2 l0_2.length c0_2] 26 (0,0)) (vK BK683.out) hb);have n3_:=Aside0.mk (below_step (vBg HB.out GE683.out) hb);clear HO686;clear BK683;clear HB;have HO686:=n0_;have HO690:=n1_;have BK683:=n2_;have HB:=n3_;clear n0_ n1_ n2_ n3_;(try clear hb);(try clear hb2);(try clear hk);(try clear hi);(try clear ho0)))
   go_ret2
   exact ⟨_,by first | rfl | (simp [errW_none,errW_some] <;> rfl) | (simp [*,errW_none,errW_some] <;> rfl),by (with_reducible repeat (first | apply Kd.R_alloc | apply Kd.R_drewN | apply Kd.R_drew));exact Kd.R_mono HO690.out (fun _ hk => trivial),by repeat (first | (with_reducible first | exact HB.out | apply below_alloc | apply pw_below_drewN | apply below_drew1 | refine below_set ?_ GE683.out) | exact HB.out)⟩
 ·
  rw [if_neg c5] at H
  have c5b0:(t687 == 0) = false:=beq_eq_false_iff_ne.mpr c5
  have c5b1:(t687 != 0) = true:=bne_iff_ne.mpr c5
  simp only [Option.some.injEq,Prod.mk.injEq] at H
  obtain ⟨rfl,rfl⟩:=H
  go_enter Try.func41,Try.ntmps41
  go_wp2_with (first | ((with_reducible refine gate_dst (N:=3) rfl ?_);refine box_event ?hg (N:=3) ?hd (cs:=#[.slice A0_0 l0_0.length c0_0,.int .u64 a0_1,.slice A0_2 l0_2.length c0_2]) (t:=26) ?hr ?_;(case hd => rfl);(case hg => rfl);(case hr => first | (go_simp;done) | (go_simp;rfl));intro gb683 hg w16 hbox hb;have n0_:=Aside0.mk (below_step (vB HB.out) hb);have n1_:=Aside0.mk (hbox);have n2_:=Aside0.mk ((by rw [hg];exact (below_size (vB HB.out)):w.heap.size≤gb683));have n3_:=Aside0.mk ((by rw [hg];exact (below_size (vB HB.out)):w.heap.size≤gb683));clear HB;have HB:=n0_;have BK683:=n1_;have GW683:=n2_;have GE683:=n3_;clear n0_ n1_ n2_ n3_;clear hb hbox hg;have hcz17_0:w16.cell? ⟨gb683,0,none⟩ = some (.slice A0_0 l0_0.length c0_0):=(blk_cell BK683.out 0).trans rfl;have hcz17_1:w16.cell? ⟨gb683,1,none⟩ = some (.int .u64 a0_1):=(blk_cell BK683.out 1).trans rfl;have hcz17_2:w16.cell? ⟨gb683,2,none⟩ = some (.slice A0_2 l0_2.length c0_2):=(blk_cell BK683.out 2).trans rfl;have hfz17_0:=blk_frozen BK683.out 0;have hfz17_1:=blk_frozen BK683.out 1;have hfz17_2:=blk_frozen BK683.out 2) | ((with_reducible refine gate_callee (f:=27) rfl ?_);refine goesL_ (some 13) rfl rfl Try.func27 (by kernel_rfl) rfl #[.pointer none,.agg #[.slice A0_0 l0_0.length c0_0,.int .u64 a0_1,.slice A0_2 l0_2.length c0_2],.slice A1 l1.length c1] rfl vA ?_;(with_reducible refine (ring_Neg.calls k  _ _ l0_0 a0_1 _ _ l0_2 _ _ l1 t684 t687 _ ?side1 ?side2 ?side3 ?side4 ?side5 ?side6 A4.out).mono ?_);(case side1 => repeat (first | exact (Kd.C_below HR0_0.out HB.out) | (with_reducible refine Kd.C_alloc ?_ _) | (with_reducible refine Kd.C_drewN ?_ _) | (with_reducible refine Kd.C_drew ?_)));(case side2 => exact HC0_0.out);(case side3 => repeat (first | exact (Kd.C_below HR0_2.out HB.out) | (with_reducible refine Kd.C_alloc ?_ _) | (with_reducible refine Kd.C_drewN ?_ _) | (with_reducible refine Kd.C_drew ?_)));(case side4 => exact HC0_2.out);(case side5 => repeat (first | exact (Kd.C_below HR1.out HB.out) | (with_reducible refine Kd.C_alloc ?_ _) | (with_reducible refine Kd.C_drewN ?_ _) | (with_reducible refine Kd.C_drew ?_)));(case side6 => exact HC1.out);rintro e w18 ⟨v685,rfl,ho0,hb⟩;refine ⟨_,rfl,?_⟩;have n0_:=Aside0.mk (Kd.R_lower ho0 (below_size (vBg HB.out GE683.out)));have n1_:=Aside0.mk (blk_below (g:=gb683) (o:=.cells #[.slice A0_0 l0_0.length c0_0,.int .u64 a0_1,.slice A0_2 l0_2.length c0_2] 26 (0,0)) (vK BK683.out) hb);have n2_:=Aside0.mk (below_step (vBg HB.out GE683.out) hb);clear BK683;clear HB;have HO686:=n0_;have BK683:=n1_;have HB:=n2_;clear n0_ n1_ n2_;(try clear hb);(try clear hb2);(try clear hk);(try clear hi);(try clear ho0)))
  go_ret2
  exact ⟨_,by first | rfl | (simp [errW_none,errW_some] <;> rfl) | (simp [*,errW_none,errW_some] <;> rfl),by first | exact Kd.R_nil _ _ _ _ _ | exact Kd.N_nil _ _ _ _ _ | exact Kd.V_nil _ _ _ _ _ | exact Kd.Q_nil _ _ _ _ _ | exact Kd.S_nil _ _ _ _ _,by repeat (first | (with_reducible first | exact HB.out | apply below_alloc | apply pw_below_drewN | apply below_drew1 | refine below_set ?_ GE683.out) | exact HB.out)⟩
def short_Exp.f (k:Nat) (l0_0:List Int) (a0_1:Int) (l0_2:List Int) (l1:List Int) (a2:Int):Option (List Int × Int):=(short_Quick.f k l0_0 a0_1 l0_2 l1 (([a2]:List Int))).bind fun bt695 => (some (bt695.1,bt695.2))
theorem short_Exp.mono:∀ a0 a1 a2 a3 a4 k,LeO (short_Exp.f k a0 a1 a2 a3 a4) (short_Exp.f (k + 1) a0 a1 a2 a3 a4):=by
 intro a0 a1 a2 a3 a4 k
 unfold short_Exp.f
 repeat' first
   | (with_reducible exact short_Quick.mono _ _ _ _ _ _)
   | (with_reducible exact LeO.refl _)
   | (with_reducible exact LeO.none _)
   | (with_reducible refine LeO.ite ?_ ?_)
   | (with_reducible refine LeO.bind ?_ (fun _ => ?_))
   | exact short_Quick.mono _ _ _ _ _ _
   | exact LeO.none _
   | refine LeO.ite ?_ ?_
   | refine LeO.bind ?_ (fun _ => ?_)
theorem short_Exp.calls (k:Nat) (A0_0:Option Addr) (c0_0:Nat) (l0_0:List Int) (a0_1:Int) (A0_2:Option Addr) (c0_2:Nat) (l0_2:List Int) (A1:Option Addr) (c1:Nat) (l1:List Int) (a2:Int) (r1:List Int) (r2:Int) (w:World) (hr0_0:Kd.C (Kd.int .u64) w A0_0 l0_0.length l0_0) (hc0_0:l0_0.length≤c0_0) (hr0_2:Kd.C (Kd.int .u64) w A0_2 l0_2.length l0_2) (hc0_2:l0_2.length≤c0_2) (hr1:Kd.C (Kd.int .u64) w A1 l1.length l1) (hc1:l1.length≤c1) (h:short_Exp.f k l0_0 a0_1 l0_2 l1 a2 = some (r1,r2)) :
  Calls Try.prog 39 #[.agg #[.slice A0_0 l0_0.length c0_0,.int .u64 a0_1,.slice A0_2 l0_2.length c0_2],.slice A1 l1.length c1,.int .u64 a2] w fun e w' => ∃ v0_:Value,e = .returned (.tuple #[v0_,.int .i64 r2])∧Kd.R (Kd.int .u64) 24 w' w.heap.size (fun _ => True) v0_ r1∧Below w.heap.size w w':=by
 have hu26:=Try.underlying26
 have HR0_0:=Aside0.mk hr0_0
 have HC0_0:=Aside0.mk hc0_0
 clear hr0_0 hc0_0
 have HR0_2:=Aside0.mk hr0_2
 have HC0_2:=Aside0.mk hc0_2
 clear hr0_2 hc0_2
 have HR1:=Aside0.mk hr1
 have HC1:=Aside0.mk hc1
 clear hr1 hc1
 have HB:=Aside0.mk (Below.refl w.heap.size w)
 have H:((short_Quick.f k l0_0 a0_1 l0_2 l1 (([a2]:List Int))).bind fun bt695 => (some (bt695.1,bt695.2))) = some (r1,r2):=h
 clear h
 obtain ⟨y692,hy692⟩:∃ y_:List Int,y_ = (([a2]:List Int)):=⟨_,rfl⟩
 replace H:((short_Quick.f k l0_0 a0_1 l0_2 l1 y692).bind fun bt695 => (some (bt695.1,bt695.2))) = some (r1,r2):=by first | (rw [hy692];with_reducible exact H) | (have H2_:=(Option.bind_some _ _).symm.trans H;rw [hy692];with_reducible exact H2_) | (have H2_:=(Option.bind_some _ _).symm.trans H;with_reducible exact H2_) | with_reducible exact H | (rw [hy692];exact H) | exact H
 have Ny692:=Aside0.mk hy692
 clear hy692
 replace H:=Option.bind_eq_some_iff.mp H
 obtain ⟨⟨t695,t698⟩,A40,H⟩:=H
 replace H:(some (t695,t698)) = some (r1,r2):=H
 have A4:=Aside0.mk A40
 clear A40
 simp only [Option.some.injEq,Prod.mk.injEq] at H
 obtain ⟨rfl,rfl⟩:=H
 go_enter Try.func39,Try.ntmps39
 go_wp2_with (first | ((with_reducible refine gate_dst (N:=3) rfl ?_);refine box_event ?hg (N:=3) ?hd (cs:=#[.slice A0_0 l0_0.length c0_0,.int .u64 a0_1,.slice A0_2 l0_2.length c0_2]) (t:=26) ?hr ?_;(case hd => rfl);(case hg => rfl);(case hr => first | (go_simp;done) | (go_simp;rfl));intro gb691 hg w5 hbox hb;have n0_:=Aside0.mk (below_step (vB HB.out) hb);have n1_:=Aside0.mk (hbox);have n2_:=Aside0.mk ((by rw [hg];exact (below_size (vB HB.out)):w.heap.size≤gb691));have n3_:=Aside0.mk ((by rw [hg];exact (below_size (vB HB.out)):w.heap.size≤gb691));clear HB;have HB:=n0_;have BK691:=n1_;have GW691:=n2_;have GE691:=n3_;clear n0_ n1_ n2_ n3_;clear hb hbox hg;have hcz6_0:w5.cell? ⟨gb691,0,none⟩ = some (.slice A0_0 l0_0.length c0_0):=(blk_cell BK691.out 0).trans rfl;have hcz6_1:w5.cell? ⟨gb691,1,none⟩ = some (.int .u64 a0_1):=(blk_cell BK691.out 1).trans rfl;have hcz6_2:w5.cell? ⟨gb691,2,none⟩ = some (.slice A0_2 l0_2.length c0_2):=(blk_cell BK691.out 2).trans rfl;have hfz6_0:=blk_frozen BK691.out 0;have hfz6_1:=blk_frozen BK691.out 1;have hfz6_2:=blk_frozen BK691.out 2) | ((with_reducible refine gate_dst (N:=11) rfl ?_);refine Kd.R_lit (Kd.int .u64) _ 24 ?hg (N:=11) ?hd (xs:=([a2]:List Int)) (inner:=[.int .u64 a2]) (ok:=fun _ => True) (okp:=fun _ => True) ?hr ?hp (fun _ hk => hk) trivial (Below.refl _ _) (Nat.le_refl _) (by simp) ?_;(case hd => rfl);(case hg => rfl);(case hr => first | (go_simp;done) | (go_simp;rfl));(case hp => exact (Reps.one (show Kd.M (Kd.int .u64) _ _ _ a2 [.int .u64 a2] from rfl) (Reps.none _ _)));intro v693 w7 ho8 hb hg_ hnew_;clear hg_ hnew_;(first | rw [← Ny692.out] at ho8 | (simp only [Int.reduceToNat] at ho8;rw [← Ny692.out] at ho8));have n0_:=Aside0.mk (Kd.R_lower ho8 (below_size (vBg HB.out GE691.out)));have n1_:=Aside0.mk (blk_below (g:=gb691) (o:=.cells #[.slice A0_0 l0_0.length c0_0,.int .u64 a0_1,.slice A0_2 l0_2.length c0_2] 26 (0,0)) (vK BK691.out) hb);have n2_:=Aside0.mk (below_step (vBg HB.out GE691.out) hb);clear BK691;clear HB;have HO694:=n0_;have BK691:=n1_;have HB:=n2_;clear n0_ n1_ n2_;clear hb ho8;obtain ⟨Ao9,co9,eo9⟩:=Kd.R_slice HO694.out;subst eo9) | ((with_reducible refine gate_callee (f:=41) rfl ?_);refine goesL_ (some 12) rfl rfl Try.func41 (by kernel_rfl) rfl #[.agg #[.slice A0_0 l0_0.length c0_0,.int .u64 a0_1,.slice A0_2 l0_2.length c0_2],.slice A1 l1.length c1,.slice Ao9 y692.length co9] rfl vA ?_;(with_reducible refine (short_Quick.calls k _ _ l0_0 a0_1 _ _ l0_2 _ _ l1 _ _ y692 t695 t698 _ ?side1 ?side2 ?side3 ?side4 ?side5 ?side6 ?side7 ?side8 A4.out).mono ?_);(case side1 => repeat (first | exact (Kd.C_below HR0_0.out HB.out) | (with_reducible refine Kd.C_alloc ?_ _) | (with_reducible refine Kd.C_drewN ?_ _) | (with_reducible refine Kd.C_drew ?_)));(case side2 => exact HC0_0.out);(case side3 => repeat (first | exact (Kd.C_below HR0_2.out HB.out) | (with_reducible refine Kd.C_alloc ?_ _) | (with_reducible refine Kd.C_drewN ?_ _) | (with_reducible refine Kd.C_drew ?_)));(case side4 => exact HC0_2.out);(case side5 => repeat (first | exact (Kd.C_below HR1.out HB.out) | (with_reducible refine Kd.C_alloc ?_ _) | (with_reducible refine Kd.C_drewN ?_ _) | (with_reducible refine Kd.C_drew ?_)));(case side6 => exact HC1.out);(case side7 => repeat (first | exact (Kd.R_reads' HO694.out).2.2 | (with_reducible refine Kd.C_alloc ?_ _) | (with_reducible refine Kd.C_drewN ?_ _) | (with_reducible refine Kd.C_drew ?_)));(case side8 => exact (Kd.R_reads' HO694.out).2.1);rintro e w10 ⟨v696,rfl,ho0,hb⟩;refine ⟨_,rfl,?_⟩;have n0_:=Aside0.mk (Kd.R_elder' (vR HO694.out) (Kd.R_base ho0) hb);have n1_:=Aside0.mk (Kd.R_lower (Kd.R_new' ho0 (Kd.R_lt (vR HO694.out))) (below_size (vBg HB.out GE691.out)));have n2_:=Aside0.mk (blk_below (g:=gb691) (o:=.cells #[.slice A0_0 l0_0.length c0_0,.int .u64 a0_1,.slice A0_2 l0_2.length c0_2] 26 (0,0)) (vK BK691.out) hb);have n3_:=Aside0.mk (below_step (vBg HB.out GE691.out) hb);clear HO694;clear BK691;clear HB;have HO694:=n0_;have HO697:=n1_;have BK691:=n2_;have HB:=n3_;clear n0_ n1_ n2_ n3_;(try clear hb);(try clear hb2);(try clear hk);(try clear hi);(try clear ho0)))
 go_ret2
 exact ⟨_,by first | rfl | (simp [errW_none,errW_some] <;> rfl) | (simp [*,errW_none,errW_some] <;> rfl),by (with_reducible repeat (first | apply Kd.R_alloc | apply Kd.R_drewN | apply Kd.R_drew));exact Kd.R_mono HO697.out (fun _ hk => trivial),by repeat (first | (with_reducible first | exact HB.out | apply below_alloc | apply pw_below_drewN | apply below_drew1 | refine below_set ?_ GE691.out) | exact HB.out)⟩
end Go.Proofs.Ytonpekldcnankaa.X
