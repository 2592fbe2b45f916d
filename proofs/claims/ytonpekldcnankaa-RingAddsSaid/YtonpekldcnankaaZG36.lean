/- Texts of the walk and of the plain laws, laid together by a program: X28. -/
import Derived.Test.YtonpekldcnankaaZG0
import Derived.Test.YtonpekldcnankaaZG1
import Derived.Test.YtonpekldcnankaaZG2
import Derived.Test.YtonpekldcnankaaZG3
import Derived.Test.YtonpekldcnankaaZG5
import Derived.Test.YtonpekldcnankaaZG7
import Derived.Test.YtonpekldcnankaaZG4
import Derived.Test.YtonpekldcnankaaZG9
import Derived.Test.YtonpekldcnankaaZG12
import Derived.Test.YtonpekldcnankaaZG14
import Derived.Test.YtonpekldcnankaaZG34
set_option maxHeartbeats 8000000
set_option maxRecDepth 100000
namespace Go.Proofs.Ytonpekldcnankaa.X
open Go.RowKit Go.Proofs.YtonpekldcnankaaW.PrintWords Go.Proofs.YtonpekldcnankaaW.PrintLast Go.Proofs.YtonpekldcnankaaW.PrintMore
attribute [local go_sem] max2_int min2_int max_two min_two max_three min_three max_four min_four
set_option linter.unusedVariables false
set_option linter.unusedSimpArgs false
def sconceref03_SubMod.f (k:Nat) (l0:List Int) (l1:List Int) (l2:List Int):Option (List Int):=(sconceref03_Cmp.f k l0 l1).bind fun t449 => (if t449 ≥ 0 then ((sconceref03_Sub.f k l0 l1).bind fun t450 => (some t450)) else ((sconceref03_Add.f k l0 l2).bind fun t453 => ((sconceref03_Sub.f k t453 l1).bind fun t456 => (some t456))))
theorem sconceref03_SubMod.calls (k:Nat) (A0:Option Addr) (c0:Nat) (l0:List Int) (A1:Option Addr) (c1:Nat) (l1:List Int) (A2:Option Addr) (c2:Nat) (l2:List Int) (r:List Int) (w:World) (hr0:Kd.C (Kd.int .u32) w A0 l0.length l0) (hc0:l0.length≤c0) (hr1:Kd.C (Kd.int .u32) w A1 l1.length l1) (hc1:l1.length≤c1) (hr2:Kd.C (Kd.int .u32) w A2 l2.length l2) (hc2:l2.length≤c2) (h:sconceref03_SubMod.f k l0 l1 l2 = some r) :
  Calls Try.prog 74 #[.slice A0 l0.length c0,.slice A1 l1.length c1,.slice A2 l2.length c2] w fun e w' => ∃ v0_:Value,e = .returned (v0_)∧Kd.V (Kd.int .u32) 83 w' w.heap.size (fun k_ => (w.heap.size≤k_)) v0_ r∧Below w.heap.size w w':=by
 have HR0:=Aside0.mk hr0
 have HC0:=Aside0.mk hc0
 clear hr0 hc0
 have HR1:=Aside0.mk hr1
 have HC1:=Aside0.mk hc1
 clear hr1 hc1
 have HR2:=Aside0.mk hr2
 have HC2:=Aside0.mk hc2
 clear hr2 hc2
 have HB:=Aside0.mk (Below.refl w.heap.size w)
 have H:((sconceref03_Cmp.f k l0 l1).bind fun t449 => (if t449 ≥ 0 then ((sconceref03_Sub.f k l0 l1).bind fun t450 => (some t450)) else ((sconceref03_Add.f k l0 l2).bind fun t453 => ((sconceref03_Sub.f k t453 l1).bind fun t456 => (some t456))))) = some r:=h
 clear h
 replace H:=Option.bind_eq_some_iff.mp H
 obtain ⟨t449,A40,H⟩:=H
 replace H:(if t449 ≥ 0 then ((sconceref03_Sub.f k l0 l1).bind fun t450 => (some t450)) else ((sconceref03_Add.f k l0 l2).bind fun t453 => ((sconceref03_Sub.f k t453 l1).bind fun t456 => (some t456)))) = some r:=H
 have A4:=Aside0.mk A40
 clear A40
 by_cases c5:t449 ≥ 0
 ·
  rw [if_pos c5] at H
  have c5b0:decide (0≤t449) = true:=decide_eq_true c5
  clear c5
  replace H:=Option.bind_eq_some_iff.mp H
  obtain ⟨t450,A60,H⟩:=H
  replace H:(some t450) = some r:=H
  have A6:=Aside0.mk A60
  clear A60
  obtain rfl:=Option.some.inj H
  go_enter Try.func74,Try.ntmps74
  go_wp2_with (first | ((with_reducible refine gate_callee (f:=60) rfl ?_);refine goesL_ (some 9) rfl rfl Try.func60 (by kernel_rfl) rfl #[.slice A0 l0.length c0,.slice A1 l1.length c1] rfl vA ?_;(with_reducible refine (sconceref03_Cmp.calls k _ _ l0 _ _ l1 t449 _ ?side1 ?side2 ?side3 ?side4 A4.out).mono ?_);(case side1 => repeat (first | exact HR0.out | (with_reducible refine Kd.C_alloc ?_ _) | (with_reducible refine Kd.C_drewN ?_ _) | (with_reducible refine Kd.C_drew ?_)));(case side2 => exact HC0.out);(case side3 => repeat (first | exact HR1.out | (with_reducible refine Kd.C_alloc ?_ _) | (with_reducible refine Kd.C_drewN ?_ _) | (with_reducible refine Kd.C_drew ?_)));(case side4 => exact HC1.out);rintro e w' ⟨rfl,⟨nd,rfl⟩⟩;refine ⟨_,rfl,?_⟩) | ((with_reducible refine gate_callee (f:=58) rfl ?_);refine goesL_ (some 13) rfl rfl Try.func58 (by kernel_rfl) rfl #[.slice A0 l0.length c0,.slice A1 l1.length c1] rfl vA ?_;(with_reducible refine (sconceref03_Sub.calls k _ _ l0 _ _ l1 t450 _ ?side1 ?side2 ?side3 ?side4 A6.out).mono ?_);(case side1 => repeat (first | exact HR0.out | (with_reducible refine Kd.C_alloc ?_ _) | (with_reducible refine Kd.C_drewN ?_ _) | (with_reducible refine Kd.C_drew ?_)));(case side2 => exact HC0.out);(case side3 => repeat (first | exact HR1.out | (with_reducible refine Kd.C_alloc ?_ _) | (with_reducible refine Kd.C_drewN ?_ _) | (with_reducible refine Kd.C_drew ?_)));(case side4 => exact HC1.out);rintro e w7 ⟨v451,rfl,ho0,hb⟩;refine ⟨_,rfl,?_⟩;have n0_:=Aside0.mk (Kd.V_lower (Kd.V_mono (ok':=fun k_ => (w.heap.size≤k_)) ho0 (fun k_ hk_ => (Nat.le_trans (below_size (vB HB.out)) hk_))) (below_size (vB HB.out)));have n1_:=Aside0.mk (below_step (vB HB.out) hb);clear HB;have HO452:=n0_;have HB:=n1_;clear n0_ n1_;(try clear hb);(try clear hb2);(try clear hk);(try clear hi);(try clear ho0)))
  go_ret
  exact ⟨_,by first | rfl | (simp [errW_none,errW_some] <;> rfl) | (simp [*,errW_none,errW_some] <;> rfl),by (with_reducible repeat (first | apply Kd.V_alloc | apply Kd.V_drewN | apply Kd.V_drew));exact HO452.out,by repeat (first | (with_reducible first | exact HB.out | apply below_alloc | apply pw_below_drewN | apply below_drew1) | exact HB.out)⟩
 ·
  rw [if_neg c5] at H
  have c5b0:decide (0≤t449) = false:=decide_eq_false c5
  clear c5
  replace H:=Option.bind_eq_some_iff.mp H
  obtain ⟨t453,A80,H⟩:=H
  replace H:((sconceref03_Sub.f k t453 l1).bind fun t456 => (some t456)) = some r:=H
  have A8:=Aside0.mk A80
  clear A80
  replace H:=Option.bind_eq_some_iff.mp H
  obtain ⟨t456,A90,H⟩:=H
  replace H:(some t456) = some r:=H
  have A9:=Aside0.mk A90
  clear A90
  obtain rfl:=Option.some.inj H
  go_enter Try.func74,Try.ntmps74
  go_wp2_with (first | ((with_reducible refine gate_callee (f:=60) rfl ?_);refine goesL_ (some 9) rfl rfl Try.func60 (by kernel_rfl) rfl #[.slice A0 l0.length c0,.slice A1 l1.length c1] rfl vA ?_;(with_reducible refine (sconceref03_Cmp.calls k _ _ l0 _ _ l1 t449 _ ?side1 ?side2 ?side3 ?side4 A4.out).mono ?_);(case side1 => repeat (first | exact HR0.out | (with_reducible refine Kd.C_alloc ?_ _) | (with_reducible refine Kd.C_drewN ?_ _) | (with_reducible refine Kd.C_drew ?_)));(case side2 => exact HC0.out);(case side3 => repeat (first | exact HR1.out | (with_reducible refine Kd.C_alloc ?_ _) | (with_reducible refine Kd.C_drewN ?_ _) | (with_reducible refine Kd.C_drew ?_)));(case side4 => exact HC1.out);rintro e w' ⟨rfl,⟨nd,rfl⟩⟩;refine ⟨_,rfl,?_⟩) | ((with_reducible refine gate_callee (f:=46) rfl ?_);refine goesL_ (some 16) rfl rfl Try.func46 (by kernel_rfl) rfl #[.slice A0 l0.length c0,.slice A2 l2.length c2] rfl vA ?_;(with_reducible refine (sconceref03_Add.calls k _ _ l0 _ _ l2 t453 _ ?side1 ?side2 ?side3 ?side4 A8.out).mono ?_);(case side1 => repeat (first | exact HR0.out | (with_reducible refine Kd.C_alloc ?_ _) | (with_reducible refine Kd.C_drewN ?_ _) | (with_reducible refine Kd.C_drew ?_)));(case side2 => exact HC0.out);(case side3 => repeat (first | exact HR2.out | (with_reducible refine Kd.C_alloc ?_ _) | (with_reducible refine Kd.C_drewN ?_ _) | (with_reducible refine Kd.C_drew ?_)));(case side4 => exact HC2.out);rintro e w10 ⟨v454,rfl,ho0,hb⟩;refine ⟨_,rfl,?_⟩;have n0_:=Aside0.mk (Kd.V_lower (Kd.V_mono (ok':=fun k_ => (w.heap.size≤k_)) ho0 (fun k_ hk_ => (Nat.le_trans (below_size (vB HB.out)) hk_))) (below_size (vB HB.out)));have n1_:=Aside0.mk (below_step (vB HB.out) hb);clear HB;have HO455:=n0_;have HB:=n1_;clear n0_ n1_;(try clear hb);(try clear hb2);(try clear hk);(try clear hi);(try clear ho0);obtain ⟨Ao11,co11,eo11⟩:=Kd.V_slice HO455.out;subst eo11) | ((with_reducible refine gate_callee (f:=58) rfl ?_);refine goesL_ (some 18) rfl rfl Try.func58 (by kernel_rfl) rfl #[.slice Ao11 t453.length co11,.slice A1 l1.length c1] rfl vA ?_;(with_reducible refine (sconceref03_Sub.calls k _ _ t453 _ _ l1 t456 _ ?side1 ?side2 ?side3 ?side4 A9.out).mono ?_);(case side1 => repeat (first | exact (Kd.V_reads' HO455.out).2.2 | (with_reducible refine Kd.C_alloc ?_ _) | (with_reducible refine Kd.C_drewN ?_ _) | (with_reducible refine Kd.C_drew ?_)));(case side2 => exact (Kd.V_reads' HO455.out).2.1);(case side3 => repeat (first | exact (Kd.C_below HR1.out HB.out) | (with_reducible refine Kd.C_alloc ?_ _) | (with_reducible refine Kd.C_drewN ?_ _) | (with_reducible refine Kd.C_drew ?_)));(case side4 => exact HC1.out);rintro e w12 ⟨v457,rfl,ho0,hb⟩;refine ⟨_,rfl,?_⟩;have n0_:=Aside0.mk (Kd.V_below (vV HO455.out) hb);have n1_:=Aside0.mk (Kd.V_lower (Kd.V_mono (ok':=fun k_ => (w.heap.size≤k_)) ho0 (fun k_ hk_ => (Nat.le_trans (below_size (vB HB.out)) hk_))) (below_size (vB HB.out)));have n2_:=Aside0.mk (below_step (vB HB.out) hb);clear HO455;clear HB;have HO455:=n0_;have HO458:=n1_;have HB:=n2_;clear n0_ n1_ n2_;(try clear hb);(try clear hb2);(try clear hk);(try clear hi);(try clear ho0)))
  go_ret
  exact ⟨_,by first | rfl | (simp [errW_none,errW_some] <;> rfl) | (simp [*,errW_none,errW_some] <;> rfl),by (with_reducible repeat (first | apply Kd.V_alloc | apply Kd.V_drewN | apply Kd.V_drew));exact HO458.out,by repeat (first | (with_reducible first | exact HB.out | apply below_alloc | apply pw_below_drewN | apply below_drew1) | exact HB.out)⟩
def sconceref07_Sub.f (k:Nat) (l0_0:List Int) (a0_1:Int) (l0_2:List Int) (l1:List Int) (l2:List Int):Option (List Int × Int):=(sconceref07_Members.f k l0_0 a0_1 l0_2 (([l1,l2]:List (List Int)))).bind fun t463 => (if t463 = true then ((sconceref03_Of.f k l1).bind fun t464 => ((sconceref03_Of.f k l2).bind fun t467 => ((sconceref03_Of.f k l0_0).bind fun t470 => ((sconceref03_SubMod.f k t464 t467 t470).bind fun t473 => ((sconceref03_Nat.f k t473 (l0_0.length:Int)).bind fun t476 => (some (t476,0))))))) else (some (([]:List Int),1)))
def sconceref07_Sub.T3:Bool × List (List Nat × List Nat):=(true,[([],[]),([0],[0]),([],[]),([2,1],[2]),([],[]),([4],[4]),([5,3],[5]),([1,3,6,6],[1,3,6]),([],[]),([8],[8]),([9],[9]),([7,10,7],[7,10]),([11,11,0,1,2,3,4,5,6,7,8,9,10,11],[11]),([12,0,1,2,3,4,5,6,7,8,9,10,11,12],[])])
def sconceref07_Sub.B3:List Nat:=[0,1,0,7,0,16,63,127,0,256,768,2047,4095,8191]
theorem sconceref07_Sub.tab3:rtab .any (opsOf Try.f26 3) = sconceref07_Sub.T3:=by kernel_rfl
theorem sconceref07_Sub.bits3:waitsOk sconceref07_Sub.T3.2 sconceref07_Sub.B3 = true:=by kernel_rfl
theorem sconceref07_Sub.calls (k:Nat) (A0_0:Option Addr) (c0_0:Nat) (l0_0:List Int) (a0_1:Int) (A0_2:Option Addr) (c0_2:Nat) (l0_2:List Int) (P1_:Nat→Prop) (A1:Option Addr) (c1:Nat) (l1:List Int) (P2_:Nat→Prop) (A2:Option Addr) (c2:Nat) (l2:List Int) (r1:List Int) (r2:Int) (w:World) (hr0_0:Kd.C (Kd.int .u64) w A0_0 l0_0.length l0_0) (hc0_0:l0_0.length≤c0_0) (hr0_2:Kd.C (Kd.int .u64) w A0_2 l0_2.length l0_2) (hc0_2:l0_2.length≤c0_2) (hs1:Kd.V (Kd.int .u64) 24 w w.heap.size (fun k_ => P1_ k_) (.slice A1 l1.length c1) l1) (hs2:Kd.V (Kd.int .u64) 24 w w.heap.size (fun k_ => P2_ k_) (.slice A2 l2.length c2) l2) (h:sconceref07_Sub.f k l0_0 a0_1 l0_2 l1 l2 = some (r1,r2)) :
  Calls Try.prog 26 #[.agg #[.slice A0_0 l0_0.length c0_0,.int .u64 a0_1,.slice A0_2 l0_2.length c0_2],.slice A1 l1.length c1,.slice A2 l2.length c2] w fun e w' => ∃ v0_:Value,e = .returned (.tuple #[v0_,.int .i64 r2])∧Kd.R (Kd.int .u64) 24 w' w.heap.size (fun k_ => (w.heap.size≤k_)) v0_ r1∧Below w.heap.size w w':=by
 have hu26:=Try.underlying26
 have HR0_0:=Aside0.mk hr0_0
 have HC0_0:=Aside0.mk hc0_0
 clear hr0_0 hc0_0
 have HR0_2:=Aside0.mk hr0_2
 have HC0_2:=Aside0.mk hc0_2
 clear hr0_2 hc0_2
 have HO1:=Aside0.mk (show Kd.V (Kd.int .u64) 24 w w.heap.size (fun k_ => ((P1_ k_∨P2_ k_)∨w.heap.size≤k_)) (.slice A1 l1.length c1) l1 from Kd.V_mono hs1 (fun k_ hk => .inl (.inl hk)))
 have HO2:=Aside0.mk (show Kd.V (Kd.int .u64) 24 w w.heap.size (fun k_ => ((P1_ k_∨P2_ k_)∨w.heap.size≤k_)) (.slice A2 l2.length c2) l2 from Kd.V_mono hs2 (fun k_ hk => .inl (.inr hk)))
 have HB:=Aside0.mk (Below.refl w.heap.size w)
 have H:((sconceref07_Members.f k l0_0 a0_1 l0_2 (([l1,l2]:List (List Int)))).bind fun t463 => (if t463 = true then ((sconceref03_Of.f k l1).bind fun t464 => ((sconceref03_Of.f k l2).bind fun t467 => ((sconceref03_Of.f k l0_0).bind fun t470 => ((sconceref03_SubMod.f k t464 t467 t470).bind fun t473 => ((sconceref03_Nat.f k t473 (l0_0.length:Int)).bind fun t476 => (some (t476,0))))))) else (some (([]:List Int),1)))) = some (r1,r2):=h
 clear h
 obtain ⟨y460,hy460⟩:∃ y_:List (List Int),y_ = (([l1,l2]:List (List Int))):=⟨_,rfl⟩
 replace H:((sconceref07_Members.f k l0_0 a0_1 l0_2 y460).bind fun t463 => (if t463 = true then ((sconceref03_Of.f k l1).bind fun t464 => ((sconceref03_Of.f k l2).bind fun t467 => ((sconceref03_Of.f k l0_0).bind fun t470 => ((sconceref03_SubMod.f k t464 t467 t470).bind fun t473 => ((sconceref03_Nat.f k t473 (l0_0.length:Int)).bind fun t476 => (some (t476,0))))))) else (some (([]:List Int),1)))) = some (r1,r2):=by first | (rw [hy460];with_reducible exact H) | (have H2_:=(Option.bind_some _ _).symm.trans H;rw [hy460];with_reducible exact H2_) | (have H2_:=(Option.bind_some _ _).symm.trans H;with_reducible exact H2_) | with_reducible exact H | (rw [hy460];exact H) | exact H
 have Ny460:=Aside0.mk hy460
 clear hy460
 replace H:=Option.bind_eq_some_iff.mp H
 obtain ⟨t463,A40,H⟩:=H
 replace H:(if t463 = true then ((sconceref03_Of.f k l1).bind fun t464 => ((sconceref03_Of.f k l2).bind fun t467 => ((sconceref03_Of.f k l0_0).bind fun t470 => ((sconceref03_SubMod.f k t464 t467 t470).bind fun t473 => ((sconceref03_Nat.f k t473 (l0_0.length:Int)).bind fun t476 => (some (t476,0))))))) else (some (([]:List Int),1))) = some (r1,r2):=H
 have A4:=Aside0.mk A40
 clear A40
 by_cases c5:t463 = true
 ·
  subst c5
  have H1:((sconceref03_Of.f k l1).bind fun t464 => ((sconceref03_Of.f k l2).bind fun t467 => ((sconceref03_Of.f k l0_0).bind fun t470 => ((sconceref03_SubMod.f k t464 t467 t470).bind fun t473 => ((sconceref03_Nat.f k t473 (l0_0.length:Int)).bind fun t476 => (some (t476,0))))))) = some (r1,r2):=by rw [if_pos rfl] at H;exact H
  clear H
  have H:=H1
  clear H1
  replace H:=Option.bind_eq_some_iff.mp H
  obtain ⟨t464,A60,H⟩:=H
  replace H:((sconceref03_Of.f k l2).bind fun t467 => ((sconceref03_Of.f k l0_0).bind fun t470 => ((sconceref03_SubMod.f k t464 t467 t470).bind fun t473 => ((sconceref03_Nat.f k t473 (l0_0.length:Int)).bind fun t476 => (some (t476,0)))))) = some (r1,r2):=H
  have A6:=Aside0.mk A60
  clear A60
  replace H:=Option.bind_eq_some_iff.mp H
  obtain ⟨t467,A70,H⟩:=H
  replace H:((sconceref03_Of.f k l0_0).bind fun t470 => ((sconceref03_SubMod.f k t464 t467 t470).bind fun t473 => ((sconceref03_Nat.f k t473 (l0_0.length:Int)).bind fun t476 => (some (t476,0))))) = some (r1,r2):=H
  have A7:=Aside0.mk A70
  clear A70
  replace H:=Option.bind_eq_some_iff.mp H
  obtain ⟨t470,A80,H⟩:=H
  replace H:((sconceref03_SubMod.f k t464 t467 t470).bind fun t473 => ((sconceref03_Nat.f k t473 (l0_0.length:Int)).bind fun t476 => (some (t476,0)))) = some (r1,r2):=H
  have A8:=Aside0.mk A80
  clear A80
  replace H:=Option.bind_eq_some_iff.mp H
  obtain ⟨t473,A90,H⟩:=H
  replace H:((sconceref03_Nat.f k t473 (l0_0.length:Int)).bind fun t476 => (some (t476,0))) = some (r1,r2):=H
  have A9:=Aside0.mk A90
  clear A90
  replace H:=Option.bind_eq_some_iff.mp H
  obtain ⟨t476,A100,H⟩:=H
  replace H:(some (t476,0)) = some (r1,r2):=H
  have A10:=Aside0.mk A100
  clear A100
  simp only [Option.some.injEq,Prod.mk.injEq] at H
  obtain ⟨rfl,rfl⟩:=H
  go_enter Try.func26,Try.ntmps26
  try go_wp2_with (first | ((with_reducible refine gate_dst (N:=3) rfl ?_);refine box_event ?hg (N:=3) ?hd (cs:=#[.slice A0_0 l0_0.length c0_0,.int .u64 a0_1,.slice A0_2 l0_2.length c0_2]) (t:=26) ?hr ?_;(case hd => rfl);(case hg => rfl);(case hr => first | (go_simp;done) | (go_simp;rfl));intro gb459 hg w11 hbox hb;have n0_:=Aside0.mk (Kd.V_below (Kd.V_elderB (vV HO1.out) gb459 (Nat.le_of_eq hg.symm)) hb);have n1_:=Aside0.mk (Kd.V_below (Kd.V_elderB (vV HO2.out) gb459 (Nat.le_of_eq hg.symm)) hb);have n2_:=Aside0.mk (below_step (vB HB.out) hb);have n3_:=Aside0.mk (hbox);have n4_:=Aside0.mk ((by rw [hg];exact (below_size (vB HB.out)):w.heap.size≤gb459));have n5_:=Aside0.mk ((by rw [hg];exact (below_size (vB HB.out)):w.heap.size≤gb459));clear HO1;clear HO2;clear HB;have HO1:=n0_;have HO2:=n1_;have HB:=n2_;have BK459:=n3_;have GW459:=n4_;have GE459:=n5_;clear n0_ n1_ n2_ n3_ n4_ n5_;clear hb hbox hg;have hcz12_0:w11.cell? ⟨gb459,0,none⟩ = some (.slice A0_0 l0_0.length c0_0):=(blk_cell BK459.out 0).trans rfl;have hcz12_1:w11.cell? ⟨gb459,1,none⟩ = some (.int .u64 a0_1):=(blk_cell BK459.out 1).trans rfl;have hcz12_2:w11.cell? ⟨gb459,2,none⟩ = some (.slice A0_2 l0_2.length c0_2):=(blk_cell BK459.out 2).trans rfl;have hfz12_0:=blk_frozen BK459.out 0;have hfz12_1:=blk_frozen BK459.out 1;have hfz12_2:=blk_frozen BK459.out 2) | ((with_reducible refine gate_dst (N:=11) rfl ?_);refine Kd.N_lit (Kd.slice 24 (Kd.int .u64)) _ 23 ?hg (N':=11) ?hd (xs:=([l1,l2]:List (List Int))) (inner:=[.slice A1 l1.length c1,.slice A2 l2.length c2]) (ok:=(fun k_ => ((P1_ k_∨P2_ k_)∨w.heap.size≤k_)∧k_≠gb459)) (okp:=(fun k_ => ((P1_ k_∨P2_ k_)∨w.heap.size≤k_)∧k_≠gb459)) ?hr ?hp (fun _ hk => hk) ((show ∀ k_,w11.heap.size≤k_→(fun k_ => ((P1_ k_∨P2_ k_)∨w.heap.size≤k_)∧k_≠gb459) k_ from fun k_ hk => ⟨(.inr (Nat.le_trans (below_size (vBg HB.out GE459.out)) hk)),Kd.freshB (g:=gb459) (o:=.cells #[.slice A0_0 l0_0.length c0_0,.int .u64 a0_1,.slice A0_2 l0_2.length c0_2] 26 (0,0)) (vK BK459.out) k_ hk⟩) _ (Nat.le_refl _)) (Below.refl _ _) (Nat.le_refl _) (by simp) ?_;(case hd => rfl);(case hg => rfl);(case hr => first | (go_simp;done) | (go_simp;rfl));(case hp => exact (Reps.one (show Kd.FK (Kd.slice 24 (Kd.int .u64)) _ _ l1 [.slice A1 l1.length c1] from (Kd.FK_slice_mk (Kd.V_reads' (Kd.V_mono (ok':=(fun k_ => ((P1_ k_∨P2_ k_)∨w.heap.size≤k_)∧k_≠gb459)) (HO1.out) (fun k_ hk => ⟨hk.1,hk.2⟩))).2.1 (Kd.V_F (by (with_reducible repeat (first | apply Kd.V_alloc | apply Kd.V_drewN | apply Kd.V_drew));exact (Kd.V_mono (ok':=(fun k_ => ((P1_ k_∨P2_ k_)∨w.heap.size≤k_)∧k_≠gb459)) (HO1.out) (fun k_ hk => ⟨hk.1,hk.2⟩)))))) (Reps.one (show Kd.FK (Kd.slice 24 (Kd.int .u64)) _ _ l2 [.slice A2 l2.length c2] from (Kd.FK_slice_mk (Kd.V_reads' (Kd.V_mono (ok':=(fun k_ => ((P1_ k_∨P2_ k_)∨w.heap.size≤k_)∧k_≠gb459)) (HO2.out) (fun k_ hk => ⟨hk.1,hk.2⟩))).2.1 (Kd.V_F (by (with_reducible repeat (first | apply Kd.V_alloc | apply Kd.V_drewN | apply Kd.V_drew));exact (Kd.V_mono (ok':=(fun k_ => ((P1_ k_∨P2_ k_)∨w.heap.size≤k_)∧k_≠gb459)) (HO2.out) (fun k_ hk => ⟨hk.1,hk.2⟩)))))) (Reps.none _ _))));intro v461 w13 ho14 hb hg_ hnew_;clear hg_ hnew_;(first | rw [← Ny460.out] at ho14 | (simp only [Int.reduceToNat] at ho14;rw [← Ny460.out] at ho14));have n0_:=Aside0.mk (Kd.V_elder' (vV HO1.out) (Kd.N_base ho14) hb);have n1_:=Aside0.mk (Kd.V_elder' (vV HO2.out) (Kd.N_base ho14) hb);have n2_:=Aside0.mk (Kd.N_lower ho14 (below_size (vBg HB.out GE459.out)));have n3_:=Aside0.mk (blk_below (g:=gb459) (o:=.cells #[.slice A0_0 l0_0.length c0_0,.int .u64 a0_1,.slice A0_2 l0_2.length c0_2] 26 (0,0)) (vK BK459.out) hb);have n4_:=Aside0.mk (below_step (vBg HB.out GE459.out) hb);clear HO1;clear HO2;clear BK459;clear HB;have HO1:=n0_;have HO2:=n1_;have HO462:=n2_;have BK459:=n3_;have HB:=n4_;clear n0_ n1_ n2_ n3_ n4_;clear hb ho14;obtain ⟨Ao15,co15,eo15⟩:=Kd.N_slice HO462.out;subst eo15) | ((with_reducible refine gate_callee (f:=34) rfl ?_);refine goesL_ (some 12) rfl rfl Try.func34 (by kernel_rfl) rfl #[.agg #[.slice A0_0 l0_0.length c0_0,.int .u64 a0_1,.slice A0_2 l0_2.length c0_2],.slice Ao15 y460.length co15] rfl vA ?_;(with_reducible refine (sconceref07_Members.calls k _ _ l0_0 a0_1 _ _ l0_2 _ _ y460 true _ ?side1 ?side2 ?side3 ?side4 ?side5 ?side6 A4.out).mono ?_);(case side1 => repeat (first | exact (Kd.C_below HR0_0.out HB.out) | (with_reducible refine Kd.C_alloc ?_ _) | (with_reducible refine Kd.C_drewN ?_ _) | (with_reducible refine Kd.C_drew ?_)));(case side2 => exact HC0_0.out);(case side3 => repeat (first | exact (Kd.C_below HR0_2.out HB.out) | (with_reducible refine Kd.C_alloc ?_ _) | (with_reducible refine Kd.C_drewN ?_ _) | (with_reducible refine Kd.C_drew ?_)));(case side4 => exact HC0_2.out);(case side5 => repeat (first | exact (Kd.N_reads' HO462.out).2.2 | (with_reducible refine Kd.C_alloc ?_ _) | (with_reducible refine Kd.C_drewN ?_ _) | (with_reducible refine Kd.C_drew ?_)));(case side6 => exact (Kd.N_reads' HO462.out).2.1);rintro e w16 ⟨rfl,hb⟩;refine ⟨_,rfl,?_⟩;have n0_:=Aside0.mk (Kd.V_below (vV HO1.out) hb);have n1_:=Aside0.mk (Kd.V_below (vV HO2.out) hb);have n2_:=Aside0.mk (Kd.N_below (by (with_reducible repeat (first | apply Kd.N_alloc | apply Kd.N_drewN | apply Kd.N_drew));exact HO462.out) hb);have n3_:=Aside0.mk (blk_below (g:=gb459) (o:=.cells #[.slice A0_0 l0_0.length c0_0,.int .u64 a0_1,.slice A0_2 l0_2.length c0_2] 26 (0,0)) (vK BK459.out) hb);have n4_:=Aside0.mk (below_step (vBg HB.out GE459.out) hb);clear HO1;clear HO2;clear HO462;clear BK459;clear HB;have HO1:=n0_;have HO2:=n1_;have HO462:=n2_;have BK459:=n3_;have HB:=n4_;clear n0_ n1_ n2_ n3_ n4_;(try clear hb);(try clear hb2);(try clear hk);(try clear hi)))
  have n0_:=Aside0.mk (Kd.V_drew HO1.out)
  have n1_:=Aside0.mk (Kd.V_drew HO2.out)
  have n2_:=Aside0.mk (Kd.N_drew HO462.out)
  have n3_:=Aside0.mk (blk_drew BK459.out)
  have n4_:=Aside0.mk (below_drew1 HB.out)
  clear HO1
  clear HO2
  clear HO462
  clear BK459
  clear HB
  have HO1:=n0_
  have HO2:=n1_
  have HO462:=n2_
  have BK459:=n3_
  have HB:=n4_
  clear n0_ n1_ n2_ n3_ n4_
  refine start_ (n:=14) (S:=fun w' => w'.cell? ⟨gb459,0,none⟩ = some (.slice A0_0 l0_0.length c0_0)∧w'.cell? ⟨gb459,1,none⟩ = some (.int .u64 a0_1)∧w'.cell? ⟨gb459,2,none⟩ = some (.slice A0_2 l0_2.length c0_2)) (ds:=[]) #[false,false,false,false,false,false,false,false,false,false,false,false,false,false] (by kernel_rfl) rfl rfl ⟨(blk_cell BK459.out 0).trans rfl,(blk_cell BK459.out 1).trans rfl,(blk_cell BK459.out 2).trans rfl⟩ (fun hHeld => ?_);refine with_tabW sconceref07_Sub.tab3 sconceref07_Sub.bits3 (fun HT_ HW_ => ?_)
  generalize w16.drew = w17 at HO1 HO2 HO462 BK459 HB hHeld ⊢
  refine pure_ (i:=0) (N:=some 14) (v:=?_) (a':=?_) #[true,false,false,false,false,false,false,false,false,false,false,false,false,false] rfl rfl (any_of HT_.out (by kernel_rfl)) (fun _ _ _ h => h) (Or.inl ⟨by rfl,?_⟩) ?_ ?_
  rotate_left
  ·
   exact vQ
  rotate_left
  ·
   exact vP
  refine pure_ (i:=2) (N:=some 16) (v:=?_) (a':=?_) #[true,false,true,false,false,false,false,false,false,false,false,false,false,false] rfl rfl (any_of HT_.out (by kernel_rfl)) (fun _ _ _ h => h) (Or.inl ⟨by rfl,?_⟩) ?_ ?_
  rotate_left
  ·
   exact vQ
  rotate_left
  ·
   exact vP
  refine pure_ (i:=4) (N:=some 18) (v:=?_) (a':=?_) #[true,false,true,false,true,false,false,false,false,false,false,false,false,false] rfl rfl (any_of HT_.out (by kernel_rfl)) (fun _ _ _ h => h) (Or.inl ⟨by rfl,?_⟩) ?_ ?_
  rotate_left
  ·
   exact vQ
  rotate_left
  ·
   exact vP
  refine pure_ (i:=8) (N:=some 22) (v:=?_) (a':=?_) #[true,false,true,false,true,false,false,false,true,false,false,false,false,false] rfl rfl (any_of HT_.out (by kernel_rfl)) (fun _ _ _ h => h) (Or.inl ⟨by rfl,?_⟩) ?_ ?_
  rotate_left
  ·
   exact vQ
  rotate_left
  ·
   exact vP
  refine take_ (i:=5) (N:=some 19) (v:=?_) (a':=?_) #[true,false,true,false,true,true,false,false,true,false,false,false,false,false] rfl rfl (take_ofW HT_.out HW_.out (by kernel_rfl)) (fun _ _ _ h => h) (Or.inl ⟨by rfl,?_⟩) hHeld ?_ ?_
  rotate_left
  ·
   rintro w' ⟨s0,s1,s2⟩
   go_simp
   with_reducible rfl
  rotate_left
  ·
   exact vP
  refine take_ (i:=9) (N:=some 23) (v:=?_) (a':=?_) #[true,false,true,false,true,true,false,false,true,true,false,false,false,false] rfl rfl (take_ofW HT_.out HW_.out (by kernel_rfl)) (fun _ _ _ h => h) (Or.inl ⟨by rfl,?_⟩) hHeld ?_ ?_
  rotate_left
  ·
   rintro w' ⟨s0,s1,s2⟩
   go_simp
   with_reducible rfl
  rotate_left
  ·
   exact vP
  refine pure_ (i:=10) (N:=some 24) (v:=?_) (a':=?_) #[true,false,true,false,true,true,false,false,true,true,true,false,false,false] rfl rfl (any_of HT_.out (by kernel_rfl)) (fun _ _ _ h => h) (Or.inl ⟨by rfl,?_⟩) ?_ ?_
  rotate_left
  ·
   exact vQ
  rotate_left
  ·
   exact vP
  refine one_ (i:=1) (N:=some 15) #[true,true,true,false,true,true,false,false,true,true,true,false,false,false] rfl rfl (one_of HT_.out (by kernel_rfl)) (by decide) (fun K hK => ?_)
  refine goes_ Try.func47 (by kernel_rfl) rfl #[.slice A1 l1.length c1] (by rfl) rfl rfl vA ?_
  with_reducible refine (sconceref03_Of.calls k _ _ l1 t464 _ ?side1 ?side2 A6.out).mono ?_
  (case side1 => repeat (first | exact (Kd.V_reads' HO1.out).2.2 | (with_reducible refine Kd.C_alloc ?_ _) | (with_reducible refine Kd.C_drewN ?_ _) | (with_reducible refine Kd.C_drew ?_)))
  (case side2 => exact (Kd.V_reads' HO1.out).2.1)
  rintro e w18 ⟨v465,rfl,ho0,hb⟩
  refine ⟨_,rfl,?_⟩
  have n0_:=Aside0.mk (Kd.V_below (vV HO1.out) hb)
  have n1_:=Aside0.mk (Kd.V_below (vV HO2.out) hb)
  have n2_:=Aside0.mk (Kd.N_below (by (with_reducible repeat (first | apply Kd.N_alloc | apply Kd.N_drewN | apply Kd.N_drew));exact HO462.out) hb)
  have n3_:=Aside0.mk (Kd.V_lower (Kd.V_mono (ok':=fun k_ => ((P1_ k_∨P2_ k_)∨w.heap.size≤k_)∧some k_≠(.slice Ao15 y460.length co15:Value).ownBlock∧k_≠gb459) ho0 (fun k_ hk_ => ⟨(.inr (Nat.le_trans (below_size (vBg HB.out GE459.out)) hk_)),(Kd.fresh' (Kd.N_lt (by (with_reducible repeat (first | apply Kd.N_alloc | apply Kd.N_drewN | apply Kd.N_drew));exact HO462.out)) k_ hk_),(Kd.freshB (g:=gb459) (o:=.cells #[.slice A0_0 l0_0.length c0_0,.int .u64 a0_1,.slice A0_2 l0_2.length c0_2] 26 (0,0)) (vK BK459.out) k_ hk_)⟩)) (below_size (vBg HB.out GE459.out)))
  have n4_:=Aside0.mk (blk_below (g:=gb459) (o:=.cells #[.slice A0_0 l0_0.length c0_0,.int .u64 a0_1,.slice A0_2 l0_2.length c0_2] 26 (0,0)) (vK BK459.out) hb)
  have n5_:=Aside0.mk (below_step (vBg HB.out GE459.out) hb)
  clear HO1
  clear HO2
  clear HO462
  clear BK459
  clear HB
  have HO1:=n0_
  have HO2:=n1_
  have HO462:=n2_
  have HO466:=n3_
  have BK459:=n4_
  have HB:=n5_
  clear n0_ n1_ n2_ n3_ n4_ n5_
  (try clear hb)
  (try clear hb2)
  (try clear hk)
  (try clear hi)
  (try clear ho0)
  refine hK.out _ _ ⟨(blk_cell BK459.out 0).trans rfl,(blk_cell BK459.out 1).trans rfl,(blk_cell BK459.out 2).trans rfl⟩ (fun hHeld => ?_)
  clear hK K
  refine norm_ (a':=?_) ?_ ?_
  rotate_left
  ·
   show Act.put _ (some 15) _ = _
   simp only [Act.put,List.setIfInBounds_toArray,List.set_cons_zero,List.set_cons_succ,i64_w,i32_w]
   rfl
  refine one_ (i:=3) (N:=some 17) #[true,true,true,true,true,true,false,false,true,true,true,false,false,false] rfl rfl (one_of HT_.out (by kernel_rfl)) (by decide) (fun K hK => ?_)
  refine goes_ Try.func47 (by kernel_rfl) rfl #[.slice A2 l2.length c2] (by rfl) rfl rfl vA ?_
  with_reducible refine (sconceref03_Of.calls k _ _ l2 t467 _ ?side1 ?side2 A7.out).mono ?_
  (case side1 => repeat (first | exact (Kd.V_reads' HO2.out).2.2 | (with_reducible refine Kd.C_alloc ?_ _) | (with_reducible refine Kd.C_drewN ?_ _) | (with_reducible refine Kd.C_drew ?_)))
  (case side2 => exact (Kd.V_reads' HO2.out).2.1)
  rintro e w19 ⟨v468,rfl,ho0,hb⟩
  refine ⟨_,rfl,?_⟩
  have n0_:=Aside0.mk (Kd.V_below (vV HO1.out) hb)
  have n1_:=Aside0.mk (Kd.V_below (vV HO2.out) hb)
  have n2_:=Aside0.mk (Kd.N_below (by (with_reducible repeat (first | apply Kd.N_alloc | apply Kd.N_drewN | apply Kd.N_drew));exact HO462.out) hb)
  have n3_:=Aside0.mk (Kd.V_below (vV HO466.out) hb)
  have n4_:=Aside0.mk (Kd.V_lower (Kd.V_mono (ok':=fun k_ => ((P1_ k_∨P2_ k_)∨w.heap.size≤k_)∧some k_≠(.slice Ao15 y460.length co15:Value).ownBlock∧k_≠gb459) ho0 (fun k_ hk_ => ⟨(.inr (Nat.le_trans (below_size (vBg HB.out GE459.out)) hk_)),(Kd.fresh' (Kd.N_lt (by (with_reducible repeat (first | apply Kd.N_alloc | apply Kd.N_drewN | apply Kd.N_drew));exact HO462.out)) k_ hk_),(Kd.freshB (g:=gb459) (o:=.cells #[.slice A0_0 l0_0.length c0_0,.int .u64 a0_1,.slice A0_2 l0_2.length c0_2] 26 (0,0)) (vK BK459.out) k_ hk_)⟩)) (below_size (vBg HB.out GE459.out)))
  have n5_:=Aside0.mk (blk_below (g:=gb459) (o:=.cells #[.slice A0_0 l0_0.length c0_0,.int .u64 a0_1,.slice A0_2 l0_2.length c0_2] 26 (0,0)) (vK BK459.out) hb)
  have n6_:=Aside0.mk (below_step (vBg HB.out GE459.out) hb)
  clear HO1
  clear HO2
  clear HO462
  clear HO466
  clear BK459
  clear HB
  have HO1:=n0_
  have HO2:=n1_
  have HO462:=n2_
  have HO466:=n3_
  have HO469:=n4_
  have BK459:=n5_
  have HB:=n6_
  clear n0_ n1_ n2_ n3_ n4_ n5_ n6_
  (try clear hb)
  (try clear hb2)
  (try clear hk)
  (try clear hi)
  (try clear ho0)
  refine hK.out _ _ ⟨(blk_cell BK459.out 0).trans rfl,(blk_cell BK459.out 1).trans rfl,(blk_cell BK459.out 2).trans rfl⟩ (fun hHeld => ?_)
  clear hK K
  refine norm_ (a':=?_) ?_ ?_
  rotate_left
  ·
   show Act.put _ (some 17) _ = _
   simp only [Act.put,List.setIfInBounds_toArray,List.set_cons_zero,List.set_cons_succ,i64_w,i32_w]
   rfl
  refine one_ (i:=6) (N:=some 20) #[true,true,true,true,true,true,true,false,true,true,true,false,false,false] rfl rfl (one_of HT_.out (by kernel_rfl)) (by decide) (fun K hK => ?_)
  refine goes_ Try.func47 (by kernel_rfl) rfl #[.slice A0_0 l0_0.length c0_0] (by rfl) rfl rfl vA ?_
  with_reducible refine (sconceref03_Of.calls k _ _ l0_0 t470 _ ?side1 ?side2 A8.out).mono ?_
  (case side1 => repeat (first | exact (Kd.C_below HR0_0.out HB.out) | (with_reducible refine Kd.C_alloc ?_ _) | (with_reducible refine Kd.C_drewN ?_ _) | (with_reducible refine Kd.C_drew ?_)))
  (case side2 => exact HC0_0.out)
  rintro e w20 ⟨v471,rfl,ho0,hb⟩
  refine ⟨_,rfl,?_⟩
  have n0_:=Aside0.mk (Kd.V_below (vV HO1.out) hb)
  have n1_:=Aside0.mk (Kd.V_below (vV HO2.out) hb)
  have n2_:=Aside0.mk (Kd.N_below (by (with_reducible repeat (first | apply Kd.N_alloc | apply Kd.N_drewN | apply Kd.N_drew));exact HO462.out) hb)
  have n3_:=Aside0.mk (Kd.V_below (vV HO466.out) hb)
  have n4_:=Aside0.mk (Kd.V_below (vV HO469.out) hb)
  have n5_:=Aside0.mk (Kd.V_lower (Kd.V_mono (ok':=fun k_ => ((P1_ k_∨P2_ k_)∨w.heap.size≤k_)∧some k_≠(.slice Ao15 y460.length co15:Value).ownBlock∧k_≠gb459) ho0 (fun k_ hk_ => ⟨(.inr (Nat.le_trans (below_size (vBg HB.out GE459.out)) hk_)),(Kd.fresh' (Kd.N_lt (by (with_reducible repeat (first | apply Kd.N_alloc | apply Kd.N_drewN | apply Kd.N_drew));exact HO462.out)) k_ hk_),(Kd.freshB (g:=gb459) (o:=.cells #[.slice A0_0 l0_0.length c0_0,.int .u64 a0_1,.slice A0_2 l0_2.length c0_2] 26 (0,0)) (vK BK459.out) k_ hk_)⟩)) (below_size (vBg HB.out GE459.out)))
  have n6_:=Aside0.mk (blk_below (g:=gb459) (o:=.cells #[.slice A0_0 l0_0.length c0_0,.int .u64 a0_1,.slice A0_2 l0_2.length c0_2] 26 (0,0)) (vK BK459.out) hb)
  have n7_:=Aside0.mk (below_step (vBg HB.out GE459.out) hb)
  clear HO1
  clear HO2
  clear HO462
  clear HO466
  clear HO469
  clear BK459
  clear HB
  have HO1:=n0_
  have HO2:=n1_
  have HO462:=n2_
  have HO466:=n3_
  have HO469:=n4_
  have HO472:=n5_
  have BK459:=n6_
  have HB:=n7_
  clear n0_ n1_ n2_ n3_ n4_ n5_ n6_ n7_
  (try clear hb)
  (try clear hb2)
  (try clear hk)
  (try clear hi)
  (try clear ho0)
  obtain ⟨Ao21,co21,eo21⟩:=Kd.V_slice HO466.out
  (first | subst eo21 | (injection eo21 with f1_ f2_ f3_;have f4_:=f1_.symm;have f5_:=f3_.symm;clear f1_ f2_ f3_;subst f4_;subst f5_))
  obtain ⟨Ao22,co22,eo22⟩:=Kd.V_slice HO469.out
  (first | subst eo22 | (injection eo22 with f1_ f2_ f3_;have f4_:=f1_.symm;have f5_:=f3_.symm;clear f1_ f2_ f3_;subst f4_;subst f5_))
  obtain ⟨Ao23,co23,eo23⟩:=Kd.V_slice HO472.out
  (first | subst eo23 | (injection eo23 with f1_ f2_ f3_;have f4_:=f1_.symm;have f5_:=f3_.symm;clear f1_ f2_ f3_;subst f4_;subst f5_))
  refine hK.out _ _ ⟨(blk_cell BK459.out 0).trans rfl,(blk_cell BK459.out 1).trans rfl,(blk_cell BK459.out 2).trans rfl⟩ (fun hHeld => ?_)
  clear hK K
  refine norm_ (a':=?_) ?_ ?_
  rotate_left
  ·
   show Act.put _ (some 20) _ = _
   simp only [Act.put,List.setIfInBounds_toArray,List.set_cons_zero,List.set_cons_succ,i64_w,i32_w]
   rfl
  refine one_ (i:=7) (N:=some 21) #[true,true,true,true,true,true,true,true,true,true,true,false,false,false] rfl rfl (one_of HT_.out (by kernel_rfl)) (by decide) (fun K hK => ?_)
  refine goes_ Try.func74 (by kernel_rfl) rfl #[.slice Ao21 t464.length co21,.slice Ao22 t467.length co22,.slice Ao23 t470.length co23] (by rfl) rfl rfl vA ?_
  with_reducible refine (sconceref03_SubMod.calls k _ _ t464 _ _ t467 _ _ t470 t473 _ ?side1 ?side2 ?side3 ?side4 ?side5 ?side6 A9.out).mono ?_
  (case side1 => repeat (first | exact (Kd.V_reads' HO466.out).2.2 | (with_reducible refine Kd.C_alloc ?_ _) | (with_reducible refine Kd.C_drewN ?_ _) | (with_reducible refine Kd.C_drew ?_)))
  (case side2 => exact (Kd.V_reads' HO466.out).2.1)
  (case side3 => repeat (first | exact (Kd.V_reads' HO469.out).2.2 | (with_reducible refine Kd.C_alloc ?_ _) | (with_reducible refine Kd.C_drewN ?_ _) | (with_reducible refine Kd.C_drew ?_)))
  (case side4 => exact (Kd.V_reads' HO469.out).2.1)
  (case side5 => repeat (first | exact (Kd.V_reads' HO472.out).2.2 | (with_reducible refine Kd.C_alloc ?_ _) | (with_reducible refine Kd.C_drewN ?_ _) | (with_reducible refine Kd.C_drew ?_)))
  (case side6 => exact (Kd.V_reads' HO472.out).2.1)
  rintro e w24 ⟨v474,rfl,ho0,hb⟩
  refine ⟨_,rfl,?_⟩
  have n0_:=Aside0.mk (Kd.V_below (vV HO1.out) hb)
  have n1_:=Aside0.mk (Kd.V_below (vV HO2.out) hb)
  have n2_:=Aside0.mk (Kd.N_below (by (with_reducible repeat (first | apply Kd.N_alloc | apply Kd.N_drewN | apply Kd.N_drew));exact HO462.out) hb)
  have n3_:=Aside0.mk (Kd.V_below (vV HO466.out) hb)
  have n4_:=Aside0.mk (Kd.V_below (vV HO469.out) hb)
  have n5_:=Aside0.mk (Kd.V_below (vV HO472.out) hb)
  have n6_:=Aside0.mk (Kd.V_lower (Kd.V_mono (ok':=fun k_ => ((P1_ k_∨P2_ k_)∨w.heap.size≤k_)∧some k_≠(.slice Ao15 y460.length co15:Value).ownBlock∧k_≠gb459) ho0 (fun k_ hk_ => ⟨(.inr (Nat.le_trans (below_size (vBg HB.out GE459.out)) hk_)),(Kd.fresh' (Kd.N_lt (by (with_reducible repeat (first | apply Kd.N_alloc | apply Kd.N_drewN | apply Kd.N_drew));exact HO462.out)) k_ hk_),(Kd.freshB (g:=gb459) (o:=.cells #[.slice A0_0 l0_0.length c0_0,.int .u64 a0_1,.slice A0_2 l0_2.length c0_2] 26 (0,0)) (vK BK459.out) k_ hk_)⟩)) (below_size (vBg HB.out GE459.out)))
  have n7_:=Aside0.mk (blk_below (g:=gb459) (o:=.cells #[.slice A0_0 l0_0.length c0_0,.int .u64 a0_1,.slice A0_2 l0_2.length c0_2] 26 (0,0)) (vK BK459.out) hb)
  have n8_:=Aside0.mk (below_step (vBg HB.out GE459.out) hb)
  clear HO1
  clear HO2
  clear HO462
  clear HO466
  clear HO469
  clear HO472
  clear BK459
  clear HB
  have HO1:=n0_
  have HO2:=n1_
  have HO462:=n2_
  have HO466:=n3_
  have HO469:=n4_
  have HO472:=n5_
  have HO475:=n6_
  have BK459:=n7_
  have HB:=n8_
  clear n0_ n1_ n2_ n3_ n4_ n5_ n6_ n7_ n8_
  (try clear hb)
  (try clear hb2)
  (try clear hk)
  (try clear hi)
  (try clear ho0)
  obtain ⟨Ao25,co25,eo25⟩:=Kd.V_slice HO475.out
  (first | subst eo25 | (injection eo25 with f1_ f2_ f3_;have f4_:=f1_.symm;have f5_:=f3_.symm;clear f1_ f2_ f3_;subst f4_;subst f5_))
  refine hK.out _ _ ⟨(blk_cell BK459.out 0).trans rfl,(blk_cell BK459.out 1).trans rfl,(blk_cell BK459.out 2).trans rfl⟩ (fun hHeld => ?_)
  clear hK K
  refine norm_ (a':=?_) ?_ ?_
  rotate_left
  ·
   show Act.put _ (some 21) _ = _
   simp only [Act.put,List.setIfInBounds_toArray,List.set_cons_zero,List.set_cons_succ,i64_w,i32_w]
   rfl
  refine one_ (i:=11) (N:=some 25) #[true,true,true,true,true,true,true,true,true,true,true,true,false,false] rfl rfl (one_of HT_.out (by kernel_rfl)) (by decide) (fun K hK => ?_)
  refine goes_ Try.func67 (by kernel_rfl) rfl #[.slice Ao25 t473.length co25,.int .i64 (l0_0.length:Int)] (by rfl) rfl rfl vA ?_
  with_reducible refine (sconceref03_Nat.calls k _ _ t473 (l0_0.length:Int) t476 _ ?side1 ?side2 A10.out).mono ?_
  (case side1 => repeat (first | exact (Kd.V_reads' HO475.out).2.2 | (with_reducible refine Kd.C_alloc ?_ _) | (with_reducible refine Kd.C_drewN ?_ _) | (with_reducible refine Kd.C_drew ?_)))
  (case side2 => exact (Kd.V_reads' HO475.out).2.1)
  rintro e w26 ⟨v477,rfl,ho0,hb⟩
  refine ⟨_,rfl,?_⟩
  have n0_:=Aside0.mk (Kd.V_elder' (vV HO1.out) (Kd.R_base ho0) hb)
  have n1_:=Aside0.mk (Kd.V_elder' (vV HO2.out) (Kd.R_base ho0) hb)
  have n2_:=Aside0.mk (Kd.N_elder' (by (with_reducible repeat (first | apply Kd.N_alloc | apply Kd.N_drewN | apply Kd.N_drew));exact HO462.out) (Kd.R_base ho0) hb)
  have n3_:=Aside0.mk (Kd.V_elder' (vV HO466.out) (Kd.R_base ho0) hb)
  have n4_:=Aside0.mk (Kd.V_elder' (vV HO469.out) (Kd.R_base ho0) hb)
  have n5_:=Aside0.mk (Kd.V_elder' (vV HO472.out) (Kd.R_base ho0) hb)
  have n6_:=Aside0.mk (Kd.V_elder' (vV HO475.out) (Kd.R_base ho0) hb)
  have n7_:=Aside0.mk (Kd.R_lower (Kd.R_newM (M:=fun k_ => (w.heap.size≤k_)) ho0 (below_size (vBg HB.out GE459.out)) (fun k_ h_ => h_)) (below_size (vBg HB.out GE459.out)))
  have n8_:=Aside0.mk (blk_below (g:=gb459) (o:=.cells #[.slice A0_0 l0_0.length c0_0,.int .u64 a0_1,.slice A0_2 l0_2.length c0_2] 26 (0,0)) (vK BK459.out) hb)
  have n9_:=Aside0.mk (below_step (vBg HB.out GE459.out) hb)
  clear HO1
  clear HO2
  clear HO462
  clear HO466
  clear HO469
  clear HO472
  clear HO475
  clear BK459
  clear HB
  have HO1:=n0_
  have HO2:=n1_
  have HO462:=n2_
  have HO466:=n3_
  have HO469:=n4_
  have HO472:=n5_
  have HO475:=n6_
  have HO478:=n7_
  have BK459:=n8_
  have HB:=n9_
  clear n0_ n1_ n2_ n3_ n4_ n5_ n6_ n7_ n8_ n9_
  (try clear hb)
  (try clear hb2)
  (try clear hk)
  (try clear hi)
  (try clear ho0)
  refine hK.out _ _ ⟨(blk_cell BK459.out 0).trans rfl,(blk_cell BK459.out 1).trans rfl,(blk_cell BK459.out 2).trans rfl⟩ (fun hHeld => ?_)
  clear hK K
  refine norm_ (a':=?_) ?_ ?_
  rotate_left
  ·
   show Act.put _ (some 25) _ = _
   simp only [Act.put,List.setIfInBounds_toArray,List.set_cons_zero,List.set_cons_succ,i64_w,i32_w]
   rfl
  refine pure_ (i:=12) (N:=some 6) (v:=?_) (a':=?_) #[true,true,true,true,true,true,true,true,true,true,true,true,true,false] rfl rfl (any_of HT_.out (by kernel_rfl)) (fun _ _ _ h => h) (Or.inl ⟨by rfl,?_⟩) ?_ ?_
  rotate_left
  ·
   exact vQ
  rotate_left
  ·
   exact vP
  refine pure_ (i:=13) (N:=some 7) (v:=?_) (a':=?_) #[true,true,true,true,true,true,true,true,true,true,true,true,true,true] rfl rfl (any_of HT_.out (by kernel_rfl)) (fun _ _ _ h => h) (Or.inl ⟨by rfl,?_⟩) ?_ ?_
  rotate_left
  ·
   exact vQ
  rotate_left
  ·
   exact vP
  refine done_ (done_of HT_.out (by kernel_rfl)) ?_
  try go_wp2
  go_ret2
  exact ⟨_,by first | rfl | (simp [errW_none,errW_some] <;> rfl) | (simp [*,errW_none,errW_some] <;> rfl),by (with_reducible repeat (first | apply Kd.R_alloc | apply Kd.R_drewN | apply Kd.R_drew));exact Kd.R_mono HO478.out (fun _ hk => hk.1),by repeat (first | (with_reducible first | exact HB.out | apply below_alloc | apply pw_below_drewN | apply below_drew1 | refine below_set ?_ GE459.out) | exact HB.out)⟩
 ·
  replace c5:=Bool.eq_false_iff.mpr c5
  subst c5
  have H1:(some (([]:List Int),1)) = some (r1,r2):=by rw [if_neg (show ¬ (false = true) by decide)] at H;exact H
  clear H
  have H:=H1
  clear H1
  simp only [Option.some.injEq,Prod.mk.injEq] at H
  obtain ⟨rfl,rfl⟩:=H
  go_enter Try.func26,Try.ntmps26
  go_wp2_with (first | ((with_reducible refine gate_dst (N:=3) rfl ?_);refine box_event ?hg (N:=3) ?hd (cs:=#[.slice A0_0 l0_0.length c0_0,.int .u64 a0_1,.slice A0_2 l0_2.length c0_2]) (t:=26) ?hr ?_;(case hd => rfl);(case hg => rfl);(case hr => first | (go_simp;done) | (go_simp;rfl));intro gb459 hg w27 hbox hb;have n0_:=Aside0.mk (Kd.V_below (Kd.V_elderB (vV HO1.out) gb459 (Nat.le_of_eq hg.symm)) hb);have n1_:=Aside0.mk (Kd.V_below (Kd.V_elderB (vV HO2.out) gb459 (Nat.le_of_eq hg.symm)) hb);have n2_:=Aside0.mk (below_step (vB HB.out) hb);have n3_:=Aside0.mk (hbox);have n4_:=Aside0.mk ((by rw [hg];exact (below_size (vB HB.out)):w.heap.size≤gb459));have n5_:=Aside0.mk ((by rw [hg];exact (below_size (vB HB.out)):w.heap.size≤gb459));clear HO1;clear HO2;clear HB;have HO1:=n0_;have HO2:=n1_;have HB:=n2_;have BK459:=n3_;have GW459:=n4_;have GE459:=n5_;clear n0_ n1_ n2_ n3_ n4_ n5_;clear hb hbox hg;have hcz28_0:w27.cell? ⟨gb459,0,none⟩ = some (.slice A0_0 l0_0.length c0_0):=(blk_cell BK459.out 0).trans rfl;have hcz28_1:w27.cell? ⟨gb459,1,none⟩ = some (.int .u64 a0_1):=(blk_cell BK459.out 1).trans rfl;have hcz28_2:w27.cell? ⟨gb459,2,none⟩ = some (.slice A0_2 l0_2.length c0_2):=(blk_cell BK459.out 2).trans rfl;have hfz28_0:=blk_frozen BK459.out 0;have hfz28_1:=blk_frozen BK459.out 1;have hfz28_2:=blk_frozen BK459.out 2) | ((with_reducible refine gate_dst (N:=11) rfl ?_);refine Kd.N_lit (Kd.slice 24 (Kd.int .u64)) _ 23 ?hg (N':=11) ?hd (xs:=([l1,l2]:List (List Int))) (inner:=[.slice A1 l1.length c1,.slice A2 l2.length c2]) (ok:=(fun k_ => ((P1_ k_∨P2_ k_)∨w.heap.size≤k_)∧k_≠gb459)) (okp:=(fun k_ => ((P1_ k_∨P2_ k_)∨w.heap.size≤k_)∧k_≠gb459)) ?hr ?hp (fun _ hk => hk) ((show ∀ k_,w27.heap.size≤k_→(fun k_ => ((P1_ k_∨P2_ k_)∨w.heap.size≤k_)∧k_≠gb459) k_ from fun k_ hk => ⟨(.inr (Nat.le_trans (below_size (vBg HB.out GE459.out)) hk)),Kd.freshB (g:=gb459) (o:=.cells #[.slice A0_0 l0_0.length c0_0,.int .u64 a0_1,.slice A0_2 l0_2.length c0_2] 26 (0,0)) (vK BK459.out) k_ hk⟩) _ (Nat.le_refl _)) (Below.refl _ _) (Nat.le_refl _) (by simp) ?_;(case hd => rfl);(case hg => rfl);(case hr => first | (go_simp;done) | (go_simp;rfl));(case hp => exact (Reps.one (show Kd.FK (Kd.slice 24 (Kd.int .u64)) _ _ l1 [.slice A1 l1.length c1] from (Kd.FK_slice_mk (Kd.V_reads' (Kd.V_mono (ok':=(fun k_ => ((P1_ k_∨P2_ k_)∨w.heap.size≤k_)∧k_≠gb459)) (HO1.out) (fun k_ hk => ⟨hk.1,hk.2⟩))).2.1 (Kd.V_F (by (with_reducible repeat (first | apply Kd.V_alloc | apply Kd.V_drewN | apply Kd.V_drew));exact (Kd.V_mono (ok':=(fun k_ => ((P1_ k_∨P2_ k_)∨w.heap.size≤k_)∧k_≠gb459)) (HO1.out) (fun k_ hk => ⟨hk.1,hk.2⟩)))))) (Reps.one (show Kd.FK (Kd.slice 24 (Kd.int .u64)) _ _ l2 [.slice A2 l2.length c2] from (Kd.FK_slice_mk (Kd.V_reads' (Kd.V_mono (ok':=(fun k_ => ((P1_ k_∨P2_ k_)∨w.heap.size≤k_)∧k_≠gb459)) (HO2.out) (fun k_ hk => ⟨hk.1,hk.2⟩))).2.1 (Kd.V_F (by (with_reducible repeat (first | apply Kd.V_alloc | apply Kd.V_drewN | apply Kd.V_drew));exact (Kd.V_mono (ok':=(fun k_ => ((P1_ k_∨P2_ k_)∨w.heap.size≤k_)∧k_≠gb459)) (HO2.out) (fun k_ hk => ⟨hk.1,hk.2⟩)))))) (Reps.none _ _))));intro v461 w29 ho30 hb hg_ hnew_;clear hg_ hnew_;(first | rw [← Ny460.out] at ho30 | (simp only [Int.reduceToNat] at ho30;rw [← Ny460.out] at ho30));have n0_:=Aside0.mk (Kd.V_elder' (vV HO1.out) (Kd.N_base ho30) hb);have n1_:=Aside0.mk (Kd.V_elder' (vV HO2.out) (Kd.N_base ho30) hb);have n2_:=Aside0.mk (Kd.N_lower ho30 (below_size (vBg HB.out GE459.out)));have n3_:=Aside0.mk (blk_below (g:=gb459) (o:=.cells #[.slice A0_0 l0_0.length c0_0,.int .u64 a0_1,.slice A0_2 l0_2.length c0_2] 26 (0,0)) (vK BK459.out) hb);have n4_:=Aside0.mk (below_step (vBg HB.out GE459.out) hb);clear HO1;clear HO2;clear BK459;clear HB;have HO1:=n0_;have HO2:=n1_;have HO462:=n2_;have BK459:=n3_;have HB:=n4_;clear n0_ n1_ n2_ n3_ n4_;clear hb ho30;obtain ⟨Ao31,co31,eo31⟩:=Kd.N_slice HO462.out;subst eo31) | ((with_reducible refine gate_callee (f:=34) rfl ?_);refine goesL_ (some 12) rfl rfl Try.func34 (by kernel_rfl) rfl #[.agg #[.slice A0_0 l0_0.length c0_0,.int .u64 a0_1,.slice A0_2 l0_2.length c0_2],.slice Ao31 y460.length co31] rfl vA ?_;(with_reducible refine (sconceref07_Members.calls k _ _ l0_0 a0_1 _ _ l0_2 _ _ y460 false _ ?side1 ?side2 ?side3 ?side4 ?side5 ?side6 A4.out).mono ?_);(case side1 => repeat (first | exact (Kd.C_below HR0_0.out HB.out) | (with_reducible refine Kd.C_alloc ?_ _) | (with_reducible refine Kd.C_drewN ?_ _) | (with_reducible refine Kd.C_drew ?_)));(case side2 => exact HC0_0.out);(case side3 => repeat (first | exact (Kd.C_below HR0_2.out HB.out) | (with_reducible refine Kd.C_alloc ?_ _) | (with_reducible refine Kd.C_drewN ?_ _) | (with_reducible refine Kd.C_drew ?_)));(case side4 => exact HC0_2.out);(case side5 => repeat (first | exact (Kd.N_reads' HO462.out).2.2 | (with_reducible refine Kd.C_alloc ?_ _) | (with_reducible refine Kd.C_drewN ?_ _) | (with_reducible refine Kd.C_drew ?_)));(case side6 => exact (Kd.N_reads' HO462.out).2.1);rintro e w32 ⟨rfl,hb⟩;refine ⟨_,rfl,?_⟩;have n0_:=Aside0.mk (Kd.V_below (vV HO1.out) hb);have n1_:=Aside0.mk (Kd.V_below (vV HO2.out) hb);have n2_:=Aside0.mk (Kd.N_below (by (with_reducible repeat (first | apply Kd.N_alloc | apply Kd.N_drewN | apply Kd.N_drew));exact HO462.out) hb);have n3_:=Aside0.mk (blk_below (g:=gb459) (o:=.cells #[.slice A0_0 l0_0.length c0_0,.int .u64 a0_1,.slice A0_2 l0_2.length c0_2] 26 (0,0)) (vK BK459.out) hb);have n4_:=Aside0.mk (below_step (vBg HB.out GE459.out) hb);clear HO1;clear HO2;clear HO462;clear BK459;clear HB;have HO1:=n0_;have HO2:=n1_;have HO462:=n2_;have BK459:=n3_;have HB:=n4_;clear n0_ n1_ n2_ n3_ n4_;(try clear hb);(try clear hb2);(try clear hk);(try clear hi)))
  go_ret2
  exact ⟨_,by first | rfl | (simp [errW_none,errW_some] <;> rfl) | (simp [*,errW_none,errW_some] <;> rfl),by first | exact Kd.R_nil _ _ _ _ _ | exact Kd.N_nil _ _ _ _ _ | exact Kd.V_nil _ _ _ _ _ | exact Kd.Q_nil _ _ _ _ _ | exact Kd.S_nil _ _ _ _ _,by repeat (first | (with_reducible first | exact HB.out | apply below_alloc | apply pw_below_drewN | apply below_drew1 | refine below_set ?_ GE459.out) | exact HB.out)⟩
end Go.Proofs.Ytonpekldcnankaa.X
