/- Texts of the walk and of the plain laws, laid together by a program: X39. -/
import Derived.Test.YtonpekldcnankaaZJ0
import Derived.Test.YtonpekldcnankaaZJ1
import Derived.Test.YtonpekldcnankaaZJ2
import Derived.Test.YtonpekldcnankaaZJ3
import Derived.Test.YtonpekldcnankaaZJ5
import Derived.Test.YtonpekldcnankaaZJ7
import Derived.Test.YtonpekldcnankaaZJ4
import Derived.Test.YtonpekldcnankaaZJ9
import Derived.Test.YtonpekldcnankaaZJ10
import Derived.Test.YtonpekldcnankaaZJ12
import Derived.Test.YtonpekldcnankaaZJ14
import Derived.Test.YtonpekldcnankaaZJ20
import Derived.Test.YtonpekldcnankaaZJ25
import Derived.Test.YtonpekldcnankaaZJ27
import Derived.Test.YtonpekldcnankaaZJ33
import Derived.Test.YtonpekldcnankaaZJ37
set_option maxHeartbeats 8000000
set_option maxRecDepth 100000
namespace Go.Proofs.Ytonpekldcnankaa.X
open Go.RowKit Go.Proofs.YtonpekldcnankaaW.PrintWords Go.Proofs.YtonpekldcnankaaW.PrintLast Go.Proofs.YtonpekldcnankaaW.PrintMore
attribute [local go_sem] max2_int min2_int max_two min_two max_three min_three max_four min_four
set_option linter.unusedVariables false
set_option linter.unusedSimpArgs false
def ring_Reduce.f (k:Nat)  (l1_0:List Int) (a1_1:Int) (l1_2:List Int) (l2:List Int):Option (List Int × Int):=(mont_Check.f k l1_0 a1_1 l1_2).bind fun t630 => (if t630 = true then ((product_Divide.f l2 l1_0).bind fun bt631 => (some (bt631.2.1,bt631.2.2))) else (some (([]:List Int),1)))
theorem ring_Reduce.calls (k:Nat)  (A1_0:Option Addr) (c1_0:Nat) (l1_0:List Int) (a1_1:Int) (A1_2:Option Addr) (c1_2:Nat) (l1_2:List Int) (A2:Option Addr) (c2:Nat) (l2:List Int) (r1:List Int) (r2:Int) (w:World) (hr1_0:Kd.C (Kd.int .u64) w A1_0 l1_0.length l1_0) (hc1_0:l1_0.length≤c1_0) (hr1_2:Kd.C (Kd.int .u64) w A1_2 l1_2.length l1_2) (hc1_2:l1_2.length≤c1_2) (hr2:Kd.C (Kd.int .u64) w A2 l2.length l2) (hc2:l2.length≤c2) (h:ring_Reduce.f k l1_0 a1_1 l1_2 l2 = some (r1,r2)) :
  Calls Try.prog 32 #[.pointer none,.agg #[.slice A1_0 l1_0.length c1_0,.int .u64 a1_1,.slice A1_2 l1_2.length c1_2],.slice A2 l2.length c2] w fun e w' => ∃ v0_:Value,e = .returned (.tuple #[v0_,.int .i64 r2])∧Kd.R (Kd.int .u64) 24 w' w.heap.size (fun _ => True) v0_ r1∧Below w.heap.size w w':=by
 have hu26:=Try.underlying26
 have HR1_0:=Aside0.mk hr1_0
 have HC1_0:=Aside0.mk hc1_0
 clear hr1_0 hc1_0
 have HR1_2:=Aside0.mk hr1_2
 have HC1_2:=Aside0.mk hc1_2
 clear hr1_2 hc1_2
 have HR2:=Aside0.mk hr2
 have HC2:=Aside0.mk hc2
 clear hr2 hc2
 have HB:=Aside0.mk (Below.refl w.heap.size w)
 have H:((mont_Check.f k l1_0 a1_1 l1_2).bind fun t630 => (if t630 = true then ((product_Divide.f l2 l1_0).bind fun bt631 => (some (bt631.2.1,bt631.2.2))) else (some (([]:List Int),1)))) = some (r1,r2):=h
 clear h
 replace H:=Option.bind_eq_some_iff.mp H
 obtain ⟨t630,A40,H⟩:=H
 replace H:(if t630 = true then ((product_Divide.f l2 l1_0).bind fun bt631 => (some (bt631.2.1,bt631.2.2))) else (some (([]:List Int),1))) = some (r1,r2):=H
 have A4:=Aside0.mk A40
 clear A40
 by_cases c5:t630 = true
 ·
  subst c5
  have H1:((product_Divide.f l2 l1_0).bind fun bt631 => (some (bt631.2.1,bt631.2.2))) = some (r1,r2):=by rw [if_pos rfl] at H;exact H
  clear H
  have H:=H1
  clear H1
  replace H:=Option.bind_eq_some_iff.mp H
  obtain ⟨⟨t631,t632,t633⟩,A60,H⟩:=H
  replace H:(some (t632,t633)) = some (r1,r2):=H
  have A6:=Aside0.mk A60
  clear A60
  simp only [Option.some.injEq,Prod.mk.injEq] at H
  obtain ⟨rfl,rfl⟩:=H
  go_enter Try.func32,Try.ntmps32
  go_wp2_with (first | ((with_reducible refine gate_dst (N:=4) rfl ?_);refine box_event ?hg (N:=4) ?hd (cs:=#[.slice A1_0 l1_0.length c1_0,.int .u64 a1_1,.slice A1_2 l1_2.length c1_2]) (t:=26) ?hr ?_;(case hd => rfl);(case hg => rfl);(case hr => first | (go_simp;done) | (go_simp;rfl));intro gb629 hg w7 hbox hb;have n0_:=Aside0.mk (below_step (vB HB.out) hb);have n1_:=Aside0.mk (hbox);have n2_:=Aside0.mk ((by rw [hg];exact (below_size (vB HB.out)):w.heap.size≤gb629));have n3_:=Aside0.mk ((by rw [hg];exact (below_size (vB HB.out)):w.heap.size≤gb629));clear HB;have HB:=n0_;have BK629:=n1_;have GW629:=n2_;have GE629:=n3_;clear n0_ n1_ n2_ n3_;clear hb hbox hg;have hcz8_0:w7.cell? ⟨gb629,0,none⟩ = some (.slice A1_0 l1_0.length c1_0):=(blk_cell BK629.out 0).trans rfl;have hcz8_1:w7.cell? ⟨gb629,1,none⟩ = some (.int .u64 a1_1):=(blk_cell BK629.out 1).trans rfl;have hcz8_2:w7.cell? ⟨gb629,2,none⟩ = some (.slice A1_2 l1_2.length c1_2):=(blk_cell BK629.out 2).trans rfl;have hfz8_0:=blk_frozen BK629.out 0;have hfz8_1:=blk_frozen BK629.out 1;have hfz8_2:=blk_frozen BK629.out 2) | ((with_reducible refine gate_callee (f:=78) rfl ?_);refine goesL_ (some 12) rfl rfl Try.func78 (by kernel_rfl) rfl #[.agg #[.slice A1_0 l1_0.length c1_0,.int .u64 a1_1,.slice A1_2 l1_2.length c1_2]] rfl vA ?_;(with_reducible refine (mont_Check.calls k _ _ l1_0 a1_1 _ _ l1_2 true _ ?side1 ?side2 ?side3 ?side4 A4.out).mono ?_);(case side1 => repeat (first | exact (Kd.C_below HR1_0.out HB.out) | (with_reducible refine Kd.C_alloc ?_ _) | (with_reducible refine Kd.C_drewN ?_ _) | (with_reducible refine Kd.C_drew ?_)));(case side2 => exact HC1_0.out);(case side3 => repeat (first | exact (Kd.C_below HR1_2.out HB.out) | (with_reducible refine Kd.C_alloc ?_ _) | (with_reducible refine Kd.C_drewN ?_ _) | (with_reducible refine Kd.C_drew ?_)));(case side4 => exact HC1_2.out);rintro e w9 ⟨rfl,hb⟩;refine ⟨_,rfl,?_⟩;have n0_:=Aside0.mk (blk_below (g:=gb629) (o:=.cells #[.slice A1_0 l1_0.length c1_0,.int .u64 a1_1,.slice A1_2 l1_2.length c1_2] 26 (0,0)) (vK BK629.out) hb);have n1_:=Aside0.mk (below_step (vBg HB.out GE629.out) hb);clear BK629;clear HB;have BK629:=n0_;have HB:=n1_;clear n0_ n1_;(try clear hb);(try clear hb2);(try clear hk);(try clear hi);have hcz10_0:w9.cell? ⟨gb629,0,none⟩ = some (.slice A1_0 l1_0.length c1_0):=(blk_cell BK629.out 0).trans rfl;have hcz10_1:w9.cell? ⟨gb629,1,none⟩ = some (.int .u64 a1_1):=(blk_cell BK629.out 1).trans rfl;have hcz10_2:w9.cell? ⟨gb629,2,none⟩ = some (.slice A1_2 l1_2.length c1_2):=(blk_cell BK629.out 2).trans rfl;have hfz10_0:=blk_frozen BK629.out 0;have hfz10_1:=blk_frozen BK629.out 1;have hfz10_2:=blk_frozen BK629.out 2) | ((with_reducible refine gate_callee (f:=79) rfl ?_);refine goesL_ (some 19) rfl rfl Try.func79 (by kernel_rfl) rfl #[.pointer none,.slice A2 l2.length c2,.slice A1_0 l1_0.length c1_0] rfl vA ?_;(with_reducible refine (product_Divide.calls  _ _ l2 _ _ l1_0 t631 t632 t633 _ ?side1 ?side2 ?side3 ?side4 A6.out).mono ?_);(case side1 => repeat (first | exact (Kd.C_below HR2.out HB.out) | (with_reducible refine Kd.C_alloc ?_ _) | (with_reducible refine Kd.C_drewN ?_ _) | (with_reducible refine Kd.C_drew ?_)));(case side2 => exact HC2.out);(case side3 => repeat (first | exact (Kd.C_below HR1_0.out HB.out) | (with_reducible refine Kd.C_alloc ?_ _) | (with_reducible refine Kd.C_drewN ?_ _) | (with_reducible refine Kd.C_drew ?_)));(case side4 => exact HC1_0.out);rintro e w11 ⟨v634,v636,rfl,ho0,ho1,hb⟩;refine ⟨_,rfl,?_⟩;have n0_:=Aside0.mk (Kd.R_lower ho0 (below_size (vBg HB.out GE629.out)));have n1_:=Aside0.mk (Kd.R_lower ho1 (below_size (vBg HB.out GE629.out)));have n2_:=Aside0.mk (blk_below (g:=gb629) (o:=.cells #[.slice A1_0 l1_0.length c1_0,.int .u64 a1_1,.slice A1_2 l1_2.length c1_2] 26 (0,0)) (vK BK629.out) hb);have n3_:=Aside0.mk (below_step (vBg HB.out GE629.out) hb);clear BK629;clear HB;have HO635:=n0_;have HO637:=n1_;have BK629:=n2_;have HB:=n3_;clear n0_ n1_ n2_ n3_;(try clear hb);(try clear hb2);(try clear hk);(try clear hi);(try clear ho0);(try clear ho1)))
  go_ret2
  exact ⟨_,by first | rfl | (simp [errW_none,errW_some] <;> rfl) | (simp [*,errW_none,errW_some] <;> rfl),by (with_reducible repeat (first | apply Kd.R_alloc | apply Kd.R_drewN | apply Kd.R_drew));exact Kd.R_mono HO637.out (fun _ hk => trivial),by repeat (first | (with_reducible first | exact HB.out | apply below_alloc | apply pw_below_drewN | apply below_drew1 | refine below_set ?_ GE629.out) | exact HB.out)⟩
 ·
  replace c5:=Bool.eq_false_iff.mpr c5
  subst c5
  have H1:(some (([]:List Int),1)) = some (r1,r2):=by rw [if_neg (show ¬ (false = true) by decide)] at H;exact H
  clear H
  have H:=H1
  clear H1
  simp only [Option.some.injEq,Prod.mk.injEq] at H
  obtain ⟨rfl,rfl⟩:=H
  go_enter Try.func32,Try.ntmps32
  go_wp2_with (first | ((with_reducible refine gate_dst (N:=4) rfl ?_);refine box_event ?hg (N:=4) ?hd (cs:=#[.slice A1_0 l1_0.length c1_0,.int .u64 a1_1,.slice A1_2 l1_2.length c1_2]) (t:=26) ?hr ?_;(case hd => rfl);(case hg => rfl);(case hr => first | (go_simp;done) | (go_simp;rfl));intro gb629 hg w12 hbox hb;have n0_:=Aside0.mk (below_step (vB HB.out) hb);have n1_:=Aside0.mk (hbox);have n2_:=Aside0.mk ((by rw [hg];exact (below_size (vB HB.out)):w.heap.size≤gb629));have n3_:=Aside0.mk ((by rw [hg];exact (below_size (vB HB.out)):w.heap.size≤gb629));clear HB;have HB:=n0_;have BK629:=n1_;have GW629:=n2_;have GE629:=n3_;clear n0_ n1_ n2_ n3_;clear hb hbox hg;have hcz13_0:w12.cell? ⟨gb629,0,none⟩ = some (.slice A1_0 l1_0.length c1_0):=(blk_cell BK629.out 0).trans rfl;have hcz13_1:w12.cell? ⟨gb629,1,none⟩ = some (.int .u64 a1_1):=(blk_cell BK629.out 1).trans rfl;have hcz13_2:w12.cell? ⟨gb629,2,none⟩ = some (.slice A1_2 l1_2.length c1_2):=(blk_cell BK629.out 2).trans rfl;have hfz13_0:=blk_frozen BK629.out 0;have hfz13_1:=blk_frozen BK629.out 1;have hfz13_2:=blk_frozen BK629.out 2) | ((with_reducible refine gate_callee (f:=78) rfl ?_);refine goesL_ (some 12) rfl rfl Try.func78 (by kernel_rfl) rfl #[.agg #[.slice A1_0 l1_0.length c1_0,.int .u64 a1_1,.slice A1_2 l1_2.length c1_2]] rfl vA ?_;(with_reducible refine (mont_Check.calls k _ _ l1_0 a1_1 _ _ l1_2 false _ ?side1 ?side2 ?side3 ?side4 A4.out).mono ?_);(case side1 => repeat (first | exact (Kd.C_below HR1_0.out HB.out) | (with_reducible refine Kd.C_alloc ?_ _) | (with_reducible refine Kd.C_drewN ?_ _) | (with_reducible refine Kd.C_drew ?_)));(case side2 => exact HC1_0.out);(case side3 => repeat (first | exact (Kd.C_below HR1_2.out HB.out) | (with_reducible refine Kd.C_alloc ?_ _) | (with_reducible refine Kd.C_drewN ?_ _) | (with_reducible refine Kd.C_drew ?_)));(case side4 => exact HC1_2.out);rintro e w14 ⟨rfl,hb⟩;refine ⟨_,rfl,?_⟩;have n0_:=Aside0.mk (blk_below (g:=gb629) (o:=.cells #[.slice A1_0 l1_0.length c1_0,.int .u64 a1_1,.slice A1_2 l1_2.length c1_2] 26 (0,0)) (vK BK629.out) hb);have n1_:=Aside0.mk (below_step (vBg HB.out GE629.out) hb);clear BK629;clear HB;have BK629:=n0_;have HB:=n1_;clear n0_ n1_;(try clear hb);(try clear hb2);(try clear hk);(try clear hi)))
  go_ret2
  exact ⟨_,by first | rfl | (simp [errW_none,errW_some] <;> rfl) | (simp [*,errW_none,errW_some] <;> rfl),by first | exact Kd.R_nil _ _ _ _ _ | exact Kd.N_nil _ _ _ _ _ | exact Kd.V_nil _ _ _ _ _ | exact Kd.Q_nil _ _ _ _ _ | exact Kd.S_nil _ _ _ _ _,by repeat (first | (with_reducible first | exact HB.out | apply below_alloc | apply pw_below_drewN | apply below_drew1 | refine below_set ?_ GE629.out) | exact HB.out)⟩
def sconceref07_Reduce.f (k:Nat) (l0_0:List Int) (a0_1:Int) (l0_2:List Int) (l1:List Int):Option (List Int × Int):=(sconceref07_Members.f k l0_0 a0_1 l0_2 ([]:List (List Int))).bind fun t639 => (if t639 = true then (if (l1.length:Int) > 300 then (some (([]:List Int),2)) else ((sconceref03_Of.f k l1).bind fun t640 => ((sconceref03_Of.f k l0_0).bind fun t643 => ((sconceref03_Mod.f t640 t643).bind fun t646 => ((sconceref03_Nat.f k t646 (l0_0.length:Int)).bind fun t649 => (some (t649,0))))))) else (some (([]:List Int),1)))
def sconceref07_Reduce.T5:Bool × List (List Nat × List Nat):=(true,[([],[]),([0],[0]),([],[]),([2],[2]),([3,1],[3]),([1,4,4],[1,4]),([],[]),([6],[6]),([7],[7]),([5,8,5],[5,8]),([9,9,0,1,2,3,4,5,6,7,8,9],[9]),([10,0,1,2,3,4,5,6,7,8,9,10],[])])
def sconceref07_Reduce.B5:List Nat:=[0,1,0,4,15,31,0,64,192,511,1023,2047]
theorem sconceref07_Reduce.tab5:rtab .any (opsOf Try.f33 5) = sconceref07_Reduce.T5:=by kernel_rfl
theorem sconceref07_Reduce.bits5:waitsOk sconceref07_Reduce.T5.2 sconceref07_Reduce.B5 = true:=by kernel_rfl
theorem sconceref07_Reduce.calls (k:Nat) (A0_0:Option Addr) (c0_0:Nat) (l0_0:List Int) (a0_1:Int) (A0_2:Option Addr) (c0_2:Nat) (l0_2:List Int) (A1:Option Addr) (c1:Nat) (l1:List Int) (r1:List Int) (r2:Int) (w:World) (hr0_0:Kd.C (Kd.int .u64) w A0_0 l0_0.length l0_0) (hc0_0:l0_0.length≤c0_0) (hr0_2:Kd.C (Kd.int .u64) w A0_2 l0_2.length l0_2) (hc0_2:l0_2.length≤c0_2) (hr1:Kd.C (Kd.int .u64) w A1 l1.length l1) (hc1:l1.length≤c1) (h:sconceref07_Reduce.f k l0_0 a0_1 l0_2 l1 = some (r1,r2)) :
  Calls Try.prog 33 #[.agg #[.slice A0_0 l0_0.length c0_0,.int .u64 a0_1,.slice A0_2 l0_2.length c0_2],.slice A1 l1.length c1] w fun e w' => ∃ v0_:Value,e = .returned (.tuple #[v0_,.int .i64 r2])∧Kd.R (Kd.int .u64) 24 w' w.heap.size (fun _ => True) v0_ r1∧Below w.heap.size w w':=by
 have hu26:=Try.underlying26
 have HR0_0:=Aside0.mk hr0_0
 have HC0_0:=Aside0.mk hc0_0
 clear hr0_0 hc0_0
 have HR0_2:=Aside0.mk hr0_2
 have HC0_2:=Aside0.mk hc0_2
 clear hr0_2 hc0_2
 have HR1:=Aside0.mk hr1
 have HC1:=Aside0.mk hc1
 clear hr1 hc1
 have HB:=Aside0.mk (Below.refl w.heap.size w)
 have H:((sconceref07_Members.f k l0_0 a0_1 l0_2 ([]:List (List Int))).bind fun t639 => (if t639 = true then (if (l1.length:Int) > 300 then (some (([]:List Int),2)) else ((sconceref03_Of.f k l1).bind fun t640 => ((sconceref03_Of.f k l0_0).bind fun t643 => ((sconceref03_Mod.f t640 t643).bind fun t646 => ((sconceref03_Nat.f k t646 (l0_0.length:Int)).bind fun t649 => (some (t649,0))))))) else (some (([]:List Int),1)))) = some (r1,r2):=h
 clear h
 replace H:=Option.bind_eq_some_iff.mp H
 obtain ⟨t639,A30,H⟩:=H
 replace H:(if t639 = true then (if (l1.length:Int) > 300 then (some (([]:List Int),2)) else ((sconceref03_Of.f k l1).bind fun t640 => ((sconceref03_Of.f k l0_0).bind fun t643 => ((sconceref03_Mod.f t640 t643).bind fun t646 => ((sconceref03_Nat.f k t646 (l0_0.length:Int)).bind fun t649 => (some (t649,0))))))) else (some (([]:List Int),1))) = some (r1,r2):=H
 have A3:=Aside0.mk A30
 clear A30
 by_cases c4:t639 = true
 ·
  subst c4
  have H1:(if (l1.length:Int) > 300 then (some (([]:List Int),2)) else ((sconceref03_Of.f k l1).bind fun t640 => ((sconceref03_Of.f k l0_0).bind fun t643 => ((sconceref03_Mod.f t640 t643).bind fun t646 => ((sconceref03_Nat.f k t646 (l0_0.length:Int)).bind fun t649 => (some (t649,0))))))) = some (r1,r2):=by rw [if_pos rfl] at H;exact H
  clear H
  have H:=H1
  clear H1
  by_cases c5:(l1.length:Int) > 300
  ·
   rw [if_pos c5] at H
   have c5b0:decide (300 < (l1.length:Int)) = true:=decide_eq_true c5
   have c5b1:decide (300 < l1.length) = true:=decide_eq_true (by omega)
   clear c5
   simp only [Option.some.injEq,Prod.mk.injEq] at H
   obtain ⟨rfl,rfl⟩:=H
   go_enter Try.func33,Try.ntmps33
   go_wp2_with (first | ((with_reducible refine gate_dst (N:=2) rfl ?_);refine box_event ?hg (N:=2) ?hd (cs:=#[.slice A0_0 l0_0.length c0_0,.int .u64 a0_1,.slice A0_2 l0_2.length c0_2]) (t:=26) ?hr ?_;(case hd => rfl);(case hg => rfl);(case hr => first | (go_simp;done) | (go_simp;rfl));intro gb638 hg w6 hbox hb;have n0_:=Aside0.mk (below_step (vB HB.out) hb);have n1_:=Aside0.mk (hbox);have n2_:=Aside0.mk ((by rw [hg];exact (below_size (vB HB.out)):w.heap.size≤gb638));have n3_:=Aside0.mk ((by rw [hg];exact (below_size (vB HB.out)):w.heap.size≤gb638));clear HB;have HB:=n0_;have BK638:=n1_;have GW638:=n2_;have GE638:=n3_;clear n0_ n1_ n2_ n3_;clear hb hbox hg;have hcz7_0:w6.cell? ⟨gb638,0,none⟩ = some (.slice A0_0 l0_0.length c0_0):=(blk_cell BK638.out 0).trans rfl;have hcz7_1:w6.cell? ⟨gb638,1,none⟩ = some (.int .u64 a0_1):=(blk_cell BK638.out 1).trans rfl;have hcz7_2:w6.cell? ⟨gb638,2,none⟩ = some (.slice A0_2 l0_2.length c0_2):=(blk_cell BK638.out 2).trans rfl;have hfz7_0:=blk_frozen BK638.out 0;have hfz7_1:=blk_frozen BK638.out 1;have hfz7_2:=blk_frozen BK638.out 2) | ((with_reducible refine gate_callee (f:=34) rfl ?_);refine goesL_ (some 7) rfl rfl Try.func34 (by kernel_rfl) rfl #[.agg #[.slice A0_0 l0_0.length c0_0,.int .u64 a0_1,.slice A0_2 l0_2.length c0_2],.slice none 0 0] rfl vA ?_;(refine (sconceref07_Members.calls k _ _ l0_0 a0_1 _ _ l0_2 _ _ ([]:List (List Int)) true _ ?side1 ?side2 ?side3 ?side4 ?side5 ?side6 A3.out).mono ?_);(case side1 => repeat (first | exact (Kd.C_below HR0_0.out HB.out) | (with_reducible refine Kd.C_alloc ?_ _) | (with_reducible refine Kd.C_drewN ?_ _) | (with_reducible refine Kd.C_drew ?_)));(case side2 => exact HC0_0.out);(case side3 => repeat (first | exact (Kd.C_below HR0_2.out HB.out) | (with_reducible refine Kd.C_alloc ?_ _) | (with_reducible refine Kd.C_drewN ?_ _) | (with_reducible refine Kd.C_drew ?_)));(case side4 => exact HC0_2.out);(case side5 => exact Kd.C_nil _ _);(case side6 => exact Nat.le_refl _);rintro e w8 ⟨rfl,hb⟩;refine ⟨_,rfl,?_⟩;have n0_:=Aside0.mk (blk_below (g:=gb638) (o:=.cells #[.slice A0_0 l0_0.length c0_0,.int .u64 a0_1,.slice A0_2 l0_2.length c0_2] 26 (0,0)) (vK BK638.out) hb);have n1_:=Aside0.mk (below_step (vBg HB.out GE638.out) hb);clear BK638;clear HB;have BK638:=n0_;have HB:=n1_;clear n0_ n1_;(try clear hb);(try clear hb2);(try clear hk);(try clear hi)))
   go_ret2
   exact ⟨_,by first | rfl | (simp [errW_none,errW_some] <;> rfl) | (simp [*,errW_none,errW_some] <;> rfl),by first | exact Kd.R_nil _ _ _ _ _ | exact Kd.N_nil _ _ _ _ _ | exact Kd.V_nil _ _ _ _ _ | exact Kd.Q_nil _ _ _ _ _ | exact Kd.S_nil _ _ _ _ _,by repeat (first | (with_reducible first | exact HB.out | apply below_alloc | apply pw_below_drewN | apply below_drew1 | refine below_set ?_ GE638.out) | exact HB.out)⟩
  ·
   rw [if_neg c5] at H
   have c5b0:decide (300 < (l1.length:Int)) = false:=decide_eq_false c5
   have c5b1:decide (300 < l1.length) = false:=decide_eq_false (by omega)
   clear c5
   replace H:=Option.bind_eq_some_iff.mp H
   obtain ⟨t640,A90,H⟩:=H
   replace H:((sconceref03_Of.f k l0_0).bind fun t643 => ((sconceref03_Mod.f t640 t643).bind fun t646 => ((sconceref03_Nat.f k t646 (l0_0.length:Int)).bind fun t649 => (some (t649,0))))) = some (r1,r2):=H
   have A9:=Aside0.mk A90
   clear A90
   replace H:=Option.bind_eq_some_iff.mp H
   obtain ⟨t643,A100,H⟩:=H
   replace H:((sconceref03_Mod.f t640 t643).bind fun t646 => ((sconceref03_Nat.f k t646 (l0_0.length:Int)).bind fun t649 => (some (t649,0)))) = some (r1,r2):=H
   have A10:=Aside0.mk A100
   clear A100
   replace H:=Option.bind_eq_some_iff.mp H
   obtain ⟨t646,A110,H⟩:=H
   replace H:((sconceref03_Nat.f k t646 (l0_0.length:Int)).bind fun t649 => (some (t649,0))) = some (r1,r2):=H
   have A11:=Aside0.mk A110
   clear A110
   replace H:=Option.bind_eq_some_iff.mp H
   obtain ⟨t649,A120,H⟩:=H
   replace H:(some (t649,0)) = some (r1,r2):=H
   have A12:=Aside0.mk A120
   clear A120
   simp only [Option.some.injEq,Prod.mk.injEq] at H
   obtain ⟨rfl,rfl⟩:=H
   go_enter Try.func33,Try.ntmps33
   try go_wp2_with (first | ((with_reducible refine gate_dst (N:=2) rfl ?_);refine box_event ?hg (N:=2) ?hd (cs:=#[.slice A0_0 l0_0.length c0_0,.int .u64 a0_1,.slice A0_2 l0_2.length c0_2]) (t:=26) ?hr ?_;(case hd => rfl);(case hg => rfl);(case hr => first | (go_simp;done) | (go_simp;rfl));intro gb638 hg w13 hbox hb;have n0_:=Aside0.mk (below_step (vB HB.out) hb);have n1_:=Aside0.mk (hbox);have n2_:=Aside0.mk ((by rw [hg];exact (below_size (vB HB.out)):w.heap.size≤gb638));have n3_:=Aside0.mk ((by rw [hg];exact (below_size (vB HB.out)):w.heap.size≤gb638));clear HB;have HB:=n0_;have BK638:=n1_;have GW638:=n2_;have GE638:=n3_;clear n0_ n1_ n2_ n3_;clear hb hbox hg;have hcz14_0:w13.cell? ⟨gb638,0,none⟩ = some (.slice A0_0 l0_0.length c0_0):=(blk_cell BK638.out 0).trans rfl;have hcz14_1:w13.cell? ⟨gb638,1,none⟩ = some (.int .u64 a0_1):=(blk_cell BK638.out 1).trans rfl;have hcz14_2:w13.cell? ⟨gb638,2,none⟩ = some (.slice A0_2 l0_2.length c0_2):=(blk_cell BK638.out 2).trans rfl;have hfz14_0:=blk_frozen BK638.out 0;have hfz14_1:=blk_frozen BK638.out 1;have hfz14_2:=blk_frozen BK638.out 2) | ((with_reducible refine gate_callee (f:=34) rfl ?_);refine goesL_ (some 7) rfl rfl Try.func34 (by kernel_rfl) rfl #[.agg #[.slice A0_0 l0_0.length c0_0,.int .u64 a0_1,.slice A0_2 l0_2.length c0_2],.slice none 0 0] rfl vA ?_;(refine (sconceref07_Members.calls k _ _ l0_0 a0_1 _ _ l0_2 _ _ ([]:List (List Int)) true _ ?side1 ?side2 ?side3 ?side4 ?side5 ?side6 A3.out).mono ?_);(case side1 => repeat (first | exact (Kd.C_below HR0_0.out HB.out) | (with_reducible refine Kd.C_alloc ?_ _) | (with_reducible refine Kd.C_drewN ?_ _) | (with_reducible refine Kd.C_drew ?_)));(case side2 => exact HC0_0.out);(case side3 => repeat (first | exact (Kd.C_below HR0_2.out HB.out) | (with_reducible refine Kd.C_alloc ?_ _) | (with_reducible refine Kd.C_drewN ?_ _) | (with_reducible refine Kd.C_drew ?_)));(case side4 => exact HC0_2.out);(case side5 => exact Kd.C_nil _ _);(case side6 => exact Nat.le_refl _);rintro e w15 ⟨rfl,hb⟩;refine ⟨_,rfl,?_⟩;have n0_:=Aside0.mk (blk_below (g:=gb638) (o:=.cells #[.slice A0_0 l0_0.length c0_0,.int .u64 a0_1,.slice A0_2 l0_2.length c0_2] 26 (0,0)) (vK BK638.out) hb);have n1_:=Aside0.mk (below_step (vBg HB.out GE638.out) hb);clear BK638;clear HB;have BK638:=n0_;have HB:=n1_;clear n0_ n1_;(try clear hb);(try clear hb2);(try clear hk);(try clear hi)))
   have n0_:=Aside0.mk (blk_drew BK638.out)
   have n1_:=Aside0.mk (below_drew1 HB.out)
   clear BK638
   clear HB
   have BK638:=n0_
   have HB:=n1_
   clear n0_ n1_
   refine start_ (n:=12) (S:=fun w' => w'.cell? ⟨gb638,0,none⟩ = some (.slice A0_0 l0_0.length c0_0)∧w'.cell? ⟨gb638,1,none⟩ = some (.int .u64 a0_1)∧w'.cell? ⟨gb638,2,none⟩ = some (.slice A0_2 l0_2.length c0_2)) (ds:=[]) #[false,false,false,false,false,false,false,false,false,false,false,false] (by kernel_rfl) rfl rfl ⟨(blk_cell BK638.out 0).trans rfl,(blk_cell BK638.out 1).trans rfl,(blk_cell BK638.out 2).trans rfl⟩ (fun hHeld => ?_);refine with_tabW sconceref07_Reduce.tab5 sconceref07_Reduce.bits5 (fun HT_ HW_ => ?_)
   generalize w15.drew = w16 at BK638 HB hHeld ⊢
   refine pure_ (i:=0) (N:=some 12) (v:=?_) (a':=?_) #[true,false,false,false,false,false,false,false,false,false,false,false] rfl rfl (any_of HT_.out (by kernel_rfl)) (fun _ _ _ h => h) (Or.inl ⟨by rfl,?_⟩) ?_ ?_
   rotate_left
   ·
    exact vQ
   rotate_left
   ·
    exact vP
   refine pure_ (i:=2) (N:=some 14) (v:=?_) (a':=?_) #[true,false,true,false,false,false,false,false,false,false,false,false] rfl rfl (any_of HT_.out (by kernel_rfl)) (fun _ _ _ h => h) (Or.inl ⟨by rfl,?_⟩) ?_ ?_
   rotate_left
   ·
    exact vQ
   rotate_left
   ·
    exact vP
   refine pure_ (i:=6) (N:=some 18) (v:=?_) (a':=?_) #[true,false,true,false,false,false,true,false,false,false,false,false] rfl rfl (any_of HT_.out (by kernel_rfl)) (fun _ _ _ h => h) (Or.inl ⟨by rfl,?_⟩) ?_ ?_
   rotate_left
   ·
    exact vQ
   rotate_left
   ·
    exact vP
   refine take_ (i:=3) (N:=some 15) (v:=?_) (a':=?_) #[true,false,true,true,false,false,true,false,false,false,false,false] rfl rfl (take_ofW HT_.out HW_.out (by kernel_rfl)) (fun _ _ _ h => h) (Or.inl ⟨by rfl,?_⟩) hHeld ?_ ?_
   rotate_left
   ·
    rintro w' ⟨s0,s1,s2⟩
    go_simp
    with_reducible rfl
   rotate_left
   ·
    exact vP
   refine take_ (i:=7) (N:=some 19) (v:=?_) (a':=?_) #[true,false,true,true,false,false,true,true,false,false,false,false] rfl rfl (take_ofW HT_.out HW_.out (by kernel_rfl)) (fun _ _ _ h => h) (Or.inl ⟨by rfl,?_⟩) hHeld ?_ ?_
   rotate_left
   ·
    rintro w' ⟨s0,s1,s2⟩
    go_simp
    with_reducible rfl
   rotate_left
   ·
    exact vP
   refine pure_ (i:=8) (N:=some 20) (v:=?_) (a':=?_) #[true,false,true,true,false,false,true,true,true,false,false,false] rfl rfl (any_of HT_.out (by kernel_rfl)) (fun _ _ _ h => h) (Or.inl ⟨by rfl,?_⟩) ?_ ?_
   rotate_left
   ·
    exact vQ
   rotate_left
   ·
    exact vP
   refine one_ (i:=1) (N:=some 13) #[true,true,true,true,false,false,true,true,true,false,false,false] rfl rfl (one_of HT_.out (by kernel_rfl)) (by decide) (fun K hK => ?_)
   refine goes_ Try.func47 (by kernel_rfl) rfl #[.slice A1 l1.length c1] (by rfl) rfl rfl vA ?_
   with_reducible refine (sconceref03_Of.calls k _ _ l1 t640 _ ?side1 ?side2 A9.out).mono ?_
   (case side1 => repeat (first | exact (Kd.C_below HR1.out HB.out) | (with_reducible refine Kd.C_alloc ?_ _) | (with_reducible refine Kd.C_drewN ?_ _) | (with_reducible refine Kd.C_drew ?_)))
   (case side2 => exact HC1.out)
   rintro e w17 ⟨v641,rfl,ho0,hb⟩
   refine ⟨_,rfl,?_⟩
   have n0_:=Aside0.mk (Kd.V_lower (Kd.V_mono (ok':=fun k_ => k_≠gb638) ho0 (fun k_ hk_ => (Kd.freshB (g:=gb638) (o:=.cells #[.slice A0_0 l0_0.length c0_0,.int .u64 a0_1,.slice A0_2 l0_2.length c0_2] 26 (0,0)) (vK BK638.out) k_ hk_))) (below_size (vBg HB.out GE638.out)))
   have n1_:=Aside0.mk (blk_below (g:=gb638) (o:=.cells #[.slice A0_0 l0_0.length c0_0,.int .u64 a0_1,.slice A0_2 l0_2.length c0_2] 26 (0,0)) (vK BK638.out) hb)
   have n2_:=Aside0.mk (below_step (vBg HB.out GE638.out) hb)
   clear BK638
   clear HB
   have HO642:=n0_
   have BK638:=n1_
   have HB:=n2_
   clear n0_ n1_ n2_
   (try clear hb)
   (try clear hb2)
   (try clear hk)
   (try clear hi)
   (try clear ho0)
   refine hK.out _ _ ⟨(blk_cell BK638.out 0).trans rfl,(blk_cell BK638.out 1).trans rfl,(blk_cell BK638.out 2).trans rfl⟩ (fun hHeld => ?_)
   clear hK K
   refine norm_ (a':=?_) ?_ ?_
   rotate_left
   ·
    show Act.put _ (some 13) _ = _
    simp only [Act.put,List.setIfInBounds_toArray,List.set_cons_zero,List.set_cons_succ,i64_w,i32_w]
    rfl
   refine one_ (i:=4) (N:=some 16) #[true,true,true,true,true,false,true,true,true,false,false,false] rfl rfl (one_of HT_.out (by kernel_rfl)) (by decide) (fun K hK => ?_)
   refine goes_ Try.func47 (by kernel_rfl) rfl #[.slice A0_0 l0_0.length c0_0] (by rfl) rfl rfl vA ?_
   with_reducible refine (sconceref03_Of.calls k _ _ l0_0 t643 _ ?side1 ?side2 A10.out).mono ?_
   (case side1 => repeat (first | exact (Kd.C_below HR0_0.out HB.out) | (with_reducible refine Kd.C_alloc ?_ _) | (with_reducible refine Kd.C_drewN ?_ _) | (with_reducible refine Kd.C_drew ?_)))
   (case side2 => exact HC0_0.out)
   rintro e w18 ⟨v644,rfl,ho0,hb⟩
   refine ⟨_,rfl,?_⟩
   have n0_:=Aside0.mk (Kd.V_below (vV HO642.out) hb)
   have n1_:=Aside0.mk (Kd.V_lower (Kd.V_mono (ok':=fun k_ => k_≠gb638) ho0 (fun k_ hk_ => (Kd.freshB (g:=gb638) (o:=.cells #[.slice A0_0 l0_0.length c0_0,.int .u64 a0_1,.slice A0_2 l0_2.length c0_2] 26 (0,0)) (vK BK638.out) k_ hk_))) (below_size (vBg HB.out GE638.out)))
   have n2_:=Aside0.mk (blk_below (g:=gb638) (o:=.cells #[.slice A0_0 l0_0.length c0_0,.int .u64 a0_1,.slice A0_2 l0_2.length c0_2] 26 (0,0)) (vK BK638.out) hb)
   have n3_:=Aside0.mk (below_step (vBg HB.out GE638.out) hb)
   clear HO642
   clear BK638
   clear HB
   have HO642:=n0_
   have HO645:=n1_
   have BK638:=n2_
   have HB:=n3_
   clear n0_ n1_ n2_ n3_
   (try clear hb)
   (try clear hb2)
   (try clear hk)
   (try clear hi)
   (try clear ho0)
   obtain ⟨Ao19,co19,eo19⟩:=Kd.V_slice HO642.out
   (first | subst eo19 | (injection eo19 with f1_ f2_ f3_;have f4_:=f1_.symm;have f5_:=f3_.symm;clear f1_ f2_ f3_;subst f4_;subst f5_))
   obtain ⟨Ao20,co20,eo20⟩:=Kd.V_slice HO645.out
   (first | subst eo20 | (injection eo20 with f1_ f2_ f3_;have f4_:=f1_.symm;have f5_:=f3_.symm;clear f1_ f2_ f3_;subst f4_;subst f5_))
   refine hK.out _ _ ⟨(blk_cell BK638.out 0).trans rfl,(blk_cell BK638.out 1).trans rfl,(blk_cell BK638.out 2).trans rfl⟩ (fun hHeld => ?_)
   clear hK K
   refine norm_ (a':=?_) ?_ ?_
   rotate_left
   ·
    show Act.put _ (some 16) _ = _
    simp only [Act.put,List.setIfInBounds_toArray,List.set_cons_zero,List.set_cons_succ,i64_w,i32_w]
    rfl
   refine one_ (i:=5) (N:=some 17) #[true,true,true,true,true,true,true,true,true,false,false,false] rfl rfl (one_of HT_.out (by kernel_rfl)) (by decide) (fun K hK => ?_)
   refine goes_ Try.func59 (by kernel_rfl) rfl #[.slice Ao19 t640.length co19,.slice Ao20 t643.length co20] (by rfl) rfl rfl vA ?_
   with_reducible refine (sconceref03_Mod.calls (fun k_ => k_≠gb638) _ _ t640 _ _ t643 t646 _ ?side1 ?side2 ?side3 A11.out).mono ?_
   (case side1 => exact HO642.out)
   (case side2 => repeat (first | exact (Kd.V_reads' HO645.out).2.2 | (with_reducible refine Kd.C_alloc ?_ _) | (with_reducible refine Kd.C_drewN ?_ _) | (with_reducible refine Kd.C_drew ?_)))
   (case side3 => exact (Kd.V_reads' HO645.out).2.1)
   rintro e w21 ⟨v647,rfl,ho0,hb⟩
   refine ⟨_,rfl,?_⟩
   have n0_:=Aside0.mk (Kd.V_below (vV HO642.out) hb)
   have n1_:=Aside0.mk (Kd.V_below (vV HO645.out) hb)
   have n2_:=Aside0.mk (Kd.V_lower (Kd.V_mono (ok':=fun k_ => k_≠gb638) ho0 (fun k_ hk_ => Or.elim hk_ (fun hs_ => hs_) (fun hn_ => (Kd.freshB (g:=gb638) (o:=.cells #[.slice A0_0 l0_0.length c0_0,.int .u64 a0_1,.slice A0_2 l0_2.length c0_2] 26 (0,0)) (vK BK638.out) k_ hn_)))) (below_size (vBg HB.out GE638.out)))
   have n3_:=Aside0.mk (blk_below (g:=gb638) (o:=.cells #[.slice A0_0 l0_0.length c0_0,.int .u64 a0_1,.slice A0_2 l0_2.length c0_2] 26 (0,0)) (vK BK638.out) hb)
   have n4_:=Aside0.mk (below_step (vBg HB.out GE638.out) hb)
   clear HO642
   clear HO645
   clear BK638
   clear HB
   have HO642:=n0_
   have HO645:=n1_
   have HO648:=n2_
   have BK638:=n3_
   have HB:=n4_
   clear n0_ n1_ n2_ n3_ n4_
   (try clear hb)
   (try clear hb2)
   (try clear hk)
   (try clear hi)
   (try clear ho0)
   obtain ⟨Ao22,co22,eo22⟩:=Kd.V_slice HO648.out
   (first | subst eo22 | (injection eo22 with f1_ f2_ f3_;have f4_:=f1_.symm;have f5_:=f3_.symm;clear f1_ f2_ f3_;subst f4_;subst f5_))
   refine hK.out _ _ ⟨(blk_cell BK638.out 0).trans rfl,(blk_cell BK638.out 1).trans rfl,(blk_cell BK638.out 2).trans rfl⟩ (fun hHeld => ?_)
   clear hK K
   refine norm_ (a':=?_) ?_ ?_
   rotate_left
   ·
    show Act.put _ (some 17) _ = _
    simp only [Act.put,List.setIfInBounds_toArray,List.set_cons_zero,List.set_cons_succ,i64_w,i32_w]
    rfl
   refine one_ (i:=9) (N:=some 21) #[true,true,true,true,true,true,true,true,true,true,false,false] rfl rfl (one_of HT_.out (by kernel_rfl)) (by decide) (fun K hK => ?_)
   refine goes_ Try.func67 (by kernel_rfl) rfl #[.slice Ao22 t646.length co22,.int .i64 (l0_0.length:Int)] (by rfl) rfl rfl vA ?_
   with_reducible refine (sconceref03_Nat.calls k _ _ t646 (l0_0.length:Int) t649 _ ?side1 ?side2 A12.out).mono ?_
   (case side1 => repeat (first | exact (Kd.V_reads' HO648.out).2.2 | (with_reducible refine Kd.C_alloc ?_ _) | (with_reducible refine Kd.C_drewN ?_ _) | (with_reducible refine Kd.C_drew ?_)))
   (case side2 => exact (Kd.V_reads' HO648.out).2.1)
   rintro e w23 ⟨v650,rfl,ho0,hb⟩
   refine ⟨_,rfl,?_⟩
   have n0_:=Aside0.mk (Kd.V_elder' (vV HO642.out) (Kd.R_base ho0) hb)
   have n1_:=Aside0.mk (Kd.V_elder' (vV HO645.out) (Kd.R_base ho0) hb)
   have n2_:=Aside0.mk (Kd.V_elder' (vV HO648.out) (Kd.R_base ho0) hb)
   have n3_:=Aside0.mk (Kd.R_lower ho0 (below_size (vBg HB.out GE638.out)))
   have n4_:=Aside0.mk (blk_below (g:=gb638) (o:=.cells #[.slice A0_0 l0_0.length c0_0,.int .u64 a0_1,.slice A0_2 l0_2.length c0_2] 26 (0,0)) (vK BK638.out) hb)
   have n5_:=Aside0.mk (below_step (vBg HB.out GE638.out) hb)
   clear HO642
   clear HO645
   clear HO648
   clear BK638
   clear HB
   have HO642:=n0_
   have HO645:=n1_
   have HO648:=n2_
   have HO651:=n3_
   have BK638:=n4_
   have HB:=n5_
   clear n0_ n1_ n2_ n3_ n4_ n5_
   (try clear hb)
   (try clear hb2)
   (try clear hk)
   (try clear hi)
   (try clear ho0)
   refine hK.out _ _ ⟨(blk_cell BK638.out 0).trans rfl,(blk_cell BK638.out 1).trans rfl,(blk_cell BK638.out 2).trans rfl⟩ (fun hHeld => ?_)
   clear hK K
   refine norm_ (a':=?_) ?_ ?_
   rotate_left
   ·
    show Act.put _ (some 21) _ = _
    simp only [Act.put,List.setIfInBounds_toArray,List.set_cons_zero,List.set_cons_succ,i64_w,i32_w]
    rfl
   refine pure_ (i:=10) (N:=some 4) (v:=?_) (a':=?_) #[true,true,true,true,true,true,true,true,true,true,true,false] rfl rfl (any_of HT_.out (by kernel_rfl)) (fun _ _ _ h => h) (Or.inl ⟨by rfl,?_⟩) ?_ ?_
   rotate_left
   ·
    exact vQ
   rotate_left
   ·
    exact vP
   refine pure_ (i:=11) (N:=some 5) (v:=?_) (a':=?_) #[true,true,true,true,true,true,true,true,true,true,true,true] rfl rfl (any_of HT_.out (by kernel_rfl)) (fun _ _ _ h => h) (Or.inl ⟨by rfl,?_⟩) ?_ ?_
   rotate_left
   ·
    exact vQ
   rotate_left
   ·
    exact vP
   refine done_ (done_of HT_.out (by kernel_rfl)) ?_
   try go_wp2
   go_ret2
   exact ⟨_,by first | rfl | (simp [errW_none,errW_some] <;> rfl) | (simp [*,errW_none,errW_some] <;> rfl),by (with_reducible repeat (first | apply Kd.R_alloc | apply Kd.R_drewN | apply Kd.R_drew));exact HO651.out,by repeat (first | (with_reducible first | exact HB.out | apply below_alloc | apply pw_below_drewN | apply below_drew1 | refine below_set ?_ GE638.out) | exact HB.out)⟩
 ·
  replace c4:=Bool.eq_false_iff.mpr c4
  subst c4
  have H1:(some (([]:List Int),1)) = some (r1,r2):=by rw [if_neg (show ¬ (false = true) by decide)] at H;exact H
  clear H
  have H:=H1
  clear H1
  simp only [Option.some.injEq,Prod.mk.injEq] at H
  obtain ⟨rfl,rfl⟩:=H
  go_enter Try.func33,Try.ntmps33
  go_wp2_with (first | ((with_reducible refine gate_dst (N:=2) rfl ?_);refine box_event ?hg (N:=2) ?hd (cs:=#[.slice A0_0 l0_0.length c0_0,.int .u64 a0_1,.slice A0_2 l0_2.length c0_2]) (t:=26) ?hr ?_;(case hd => rfl);(case hg => rfl);(case hr => first | (go_simp;done) | (go_simp;rfl));intro gb638 hg w24 hbox hb;have n0_:=Aside0.mk (below_step (vB HB.out) hb);have n1_:=Aside0.mk (hbox);have n2_:=Aside0.mk ((by rw [hg];exact (below_size (vB HB.out)):w.heap.size≤gb638));have n3_:=Aside0.mk ((by rw [hg];exact (below_size (vB HB.out)):w.heap.size≤gb638));clear HB;have HB:=n0_;have BK638:=n1_;have GW638:=n2_;have GE638:=n3_;clear n0_ n1_ n2_ n3_;clear hb hbox hg;have hcz25_0:w24.cell? ⟨gb638,0,none⟩ = some (.slice A0_0 l0_0.length c0_0):=(blk_cell BK638.out 0).trans rfl;have hcz25_1:w24.cell? ⟨gb638,1,none⟩ = some (.int .u64 a0_1):=(blk_cell BK638.out 1).trans rfl;have hcz25_2:w24.cell? ⟨gb638,2,none⟩ = some (.slice A0_2 l0_2.length c0_2):=(blk_cell BK638.out 2).trans rfl;have hfz25_0:=blk_frozen BK638.out 0;have hfz25_1:=blk_frozen BK638.out 1;have hfz25_2:=blk_frozen BK638.out 2) | ((with_reducible refine gate_callee (f:=34) rfl ?_);refine goesL_ (some 7) rfl rfl Try.func34 (by kernel_rfl) rfl #[.agg #[.slice A0_0 l0_0.length c0_0,.int .u64 a0_1,.slice A0_2 l0_2.length c0_2],.slice none 0 0] rfl vA ?_;(refine (sconceref07_Members.calls k _ _ l0_0 a0_1 _ _ l0_2 _ _ ([]:List (List Int)) false _ ?side1 ?side2 ?side3 ?side4 ?side5 ?side6 A3.out).mono ?_);(case side1 => repeat (first | exact (Kd.C_below HR0_0.out HB.out) | (with_reducible refine Kd.C_alloc ?_ _) | (with_reducible refine Kd.C_drewN ?_ _) | (with_reducible refine Kd.C_drew ?_)));(case side2 => exact HC0_0.out);(case side3 => repeat (first | exact (Kd.C_below HR0_2.out HB.out) | (with_reducible refine Kd.C_alloc ?_ _) | (with_reducible refine Kd.C_drewN ?_ _) | (with_reducible refine Kd.C_drew ?_)));(case side4 => exact HC0_2.out);(case side5 => exact Kd.C_nil _ _);(case side6 => exact Nat.le_refl _);rintro e w26 ⟨rfl,hb⟩;refine ⟨_,rfl,?_⟩;have n0_:=Aside0.mk (blk_below (g:=gb638) (o:=.cells #[.slice A0_0 l0_0.length c0_0,.int .u64 a0_1,.slice A0_2 l0_2.length c0_2] 26 (0,0)) (vK BK638.out) hb);have n1_:=Aside0.mk (below_step (vBg HB.out GE638.out) hb);clear BK638;clear HB;have BK638:=n0_;have HB:=n1_;clear n0_ n1_;(try clear hb);(try clear hb2);(try clear hk);(try clear hi)))
  go_ret2
  exact ⟨_,by first | rfl | (simp [errW_none,errW_some] <;> rfl) | (simp [*,errW_none,errW_some] <;> rfl),by first | exact Kd.R_nil _ _ _ _ _ | exact Kd.N_nil _ _ _ _ _ | exact Kd.V_nil _ _ _ _ _ | exact Kd.Q_nil _ _ _ _ _ | exact Kd.S_nil _ _ _ _ _,by repeat (first | (with_reducible first | exact HB.out | apply below_alloc | apply pw_below_drewN | apply below_drew1 | refine below_set ?_ GE638.out) | exact HB.out)⟩
end Go.Proofs.Ytonpekldcnankaa.X
