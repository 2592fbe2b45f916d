/- Texts of the walk and of the plain laws, laid together by a program: X24. -/
import Derived.Test.YtonpekldcnankaaZI0
import Derived.Test.YtonpekldcnankaaZI1
import Derived.Test.YtonpekldcnankaaZI2
import Derived.Test.YtonpekldcnankaaZI3
import Derived.Test.YtonpekldcnankaaZI5
import Derived.Test.YtonpekldcnankaaZI7
import Derived.Test.YtonpekldcnankaaZI4
import Derived.Test.YtonpekldcnankaaZI9
import Derived.Test.YtonpekldcnankaaZI12
import Derived.Test.YtonpekldcnankaaZI14
import Derived.Test.YtonpekldcnankaaZI16
import Derived.Test.YtonpekldcnankaaZI17
import Derived.Test.YtonpekldcnankaaZI24
import Derived.Test.YtonpekldcnankaaZI11
import Derived.Test.YtonpekldcnankaaZI27
import Derived.Test.YtonpekldcnankaaZI37
set_option maxHeartbeats 8000000
set_option maxRecDepth 100000
namespace Go.Proofs.Ytonpekldcnankaa.X
open Go.RowKit Go.Proofs.YtonpekldcnankaaW.PrintWords Go.Proofs.YtonpekldcnankaaW.PrintLast Go.Proofs.YtonpekldcnankaaW.PrintMore
attribute [local go_sem] max2_int min2_int max_two min_two max_three min_three max_four min_four
set_option linter.unusedVariables false
set_option linter.unusedSimpArgs false
def sconceref07_Half.f (k:Nat) (l0_0:List Int) (a0_1:Int) (l0_2:List Int) (l1:List Int):Option (List Int × Int):=(sconceref07_Members.f k l0_0 a0_1 l0_2 (([l1]:List (List Int)))).bind fun t366 => (if t366 = true then ((sconceref03_Of.f k l1).bind fun t367 => ((sconceref03_Bit.f t367 0).bind fun t370 => (if t370 = 1 then ((sconceref03_Of.f k l0_0).bind fun t371 => ((sconceref03_Add.f k t367 t371).bind fun t374 => ((sconceref03_Shr.f k t374 1).bind fun t377 => ((sconceref03_Nat.f k t377 (l0_0.length:Int)).bind fun t380 => (some (t380,0)))))) else ((sconceref03_Shr.f k t367 1).bind fun t383 => ((sconceref03_Nat.f k t383 (l0_0.length:Int)).bind fun t386 => (some (t386,0))))))) else (some (([]:List Int),1)))
def sconceref07_Half.T6:Bool × List (List Nat × List Nat):=(true,[([],[]),([0],[0]),([],[]),([2],[2]),([3],[3]),([1,4,1],[1,4]),([5,5,0,1,2,3,4,5],[5]),([6,0,1,2,3,4,5,6],[])])
def sconceref07_Half.B6:List Nat:=[0,1,0,4,12,31,63,127]
theorem sconceref07_Half.tab6:rtab .any (opsOf Try.f19 6) = sconceref07_Half.T6:=by kernel_rfl
theorem sconceref07_Half.bits6:waitsOk sconceref07_Half.T6.2 sconceref07_Half.B6 = true:=by kernel_rfl
theorem sconceref07_Half.calls (k:Nat) (A0_0:Option Addr) (c0_0:Nat) (l0_0:List Int) (a0_1:Int) (A0_2:Option Addr) (c0_2:Nat) (l0_2:List Int) (P1_:Nat→Prop) (A1:Option Addr) (c1:Nat) (l1:List Int) (r1:List Int) (r2:Int) (w:World) (hr0_0:Kd.C (Kd.int .u64) w A0_0 l0_0.length l0_0) (hc0_0:l0_0.length≤c0_0) (hr0_2:Kd.C (Kd.int .u64) w A0_2 l0_2.length l0_2) (hc0_2:l0_2.length≤c0_2) (hs1:Kd.V (Kd.int .u64) 24 w w.heap.size (fun k_ => P1_ k_) (.slice A1 l1.length c1) l1) (h:sconceref07_Half.f k l0_0 a0_1 l0_2 l1 = some (r1,r2)) :
  Calls Try.prog 19 #[.agg #[.slice A0_0 l0_0.length c0_0,.int .u64 a0_1,.slice A0_2 l0_2.length c0_2],.slice A1 l1.length c1] w fun e w' => ∃ v0_:Value,e = .returned (.tuple #[v0_,.int .i64 r2])∧Kd.R (Kd.int .u64) 24 w' w.heap.size (fun k_ => (w.heap.size≤k_)) v0_ r1∧Below w.heap.size w w':=by
 have hu26:=Try.underlying26
 have HR0_0:=Aside0.mk hr0_0
 have HC0_0:=Aside0.mk hc0_0
 clear hr0_0 hc0_0
 have HR0_2:=Aside0.mk hr0_2
 have HC0_2:=Aside0.mk hc0_2
 clear hr0_2 hc0_2
 have HO1:=Aside0.mk (show Kd.V (Kd.int .u64) 24 w w.heap.size (fun k_ => (P1_ k_∨w.heap.size≤k_)) (.slice A1 l1.length c1) l1 from Kd.V_mono hs1 (fun k_ hk => .inl hk))
 have HB:=Aside0.mk (Below.refl w.heap.size w)
 have H:((sconceref07_Members.f k l0_0 a0_1 l0_2 (([l1]:List (List Int)))).bind fun t366 => (if t366 = true then ((sconceref03_Of.f k l1).bind fun t367 => ((sconceref03_Bit.f t367 0).bind fun t370 => (if t370 = 1 then ((sconceref03_Of.f k l0_0).bind fun t371 => ((sconceref03_Add.f k t367 t371).bind fun t374 => ((sconceref03_Shr.f k t374 1).bind fun t377 => ((sconceref03_Nat.f k t377 (l0_0.length:Int)).bind fun t380 => (some (t380,0)))))) else ((sconceref03_Shr.f k t367 1).bind fun t383 => ((sconceref03_Nat.f k t383 (l0_0.length:Int)).bind fun t386 => (some (t386,0))))))) else (some (([]:List Int),1)))) = some (r1,r2):=h
 clear h
 obtain ⟨y363,hy363⟩:∃ y_:List (List Int),y_ = (([l1]:List (List Int))):=⟨_,rfl⟩
 replace H:((sconceref07_Members.f k l0_0 a0_1 l0_2 y363).bind fun t366 => (if t366 = true then ((sconceref03_Of.f k l1).bind fun t367 => ((sconceref03_Bit.f t367 0).bind fun t370 => (if t370 = 1 then ((sconceref03_Of.f k l0_0).bind fun t371 => ((sconceref03_Add.f k t367 t371).bind fun t374 => ((sconceref03_Shr.f k t374 1).bind fun t377 => ((sconceref03_Nat.f k t377 (l0_0.length:Int)).bind fun t380 => (some (t380,0)))))) else ((sconceref03_Shr.f k t367 1).bind fun t383 => ((sconceref03_Nat.f k t383 (l0_0.length:Int)).bind fun t386 => (some (t386,0))))))) else (some (([]:List Int),1)))) = some (r1,r2):=by first | (rw [hy363];with_reducible exact H) | (have H2_:=(Option.bind_some _ _).symm.trans H;rw [hy363];with_reducible exact H2_) | (have H2_:=(Option.bind_some _ _).symm.trans H;with_reducible exact H2_) | with_reducible exact H | (rw [hy363];exact H) | exact H
 have Ny363:=Aside0.mk hy363
 clear hy363
 replace H:=Option.bind_eq_some_iff.mp H
 obtain ⟨t366,A30,H⟩:=H
 replace H:(if t366 = true then ((sconceref03_Of.f k l1).bind fun t367 => ((sconceref03_Bit.f t367 0).bind fun t370 => (if t370 = 1 then ((sconceref03_Of.f k l0_0).bind fun t371 => ((sconceref03_Add.f k t367 t371).bind fun t374 => ((sconceref03_Shr.f k t374 1).bind fun t377 => ((sconceref03_Nat.f k t377 (l0_0.length:Int)).bind fun t380 => (some (t380,0)))))) else ((sconceref03_Shr.f k t367 1).bind fun t383 => ((sconceref03_Nat.f k t383 (l0_0.length:Int)).bind fun t386 => (some (t386,0))))))) else (some (([]:List Int),1))) = some (r1,r2):=H
 have A3:=Aside0.mk A30
 clear A30
 by_cases c4:t366 = true
 ·
  subst c4
  have H1:((sconceref03_Of.f k l1).bind fun t367 => ((sconceref03_Bit.f t367 0).bind fun t370 => (if t370 = 1 then ((sconceref03_Of.f k l0_0).bind fun t371 => ((sconceref03_Add.f k t367 t371).bind fun t374 => ((sconceref03_Shr.f k t374 1).bind fun t377 => ((sconceref03_Nat.f k t377 (l0_0.length:Int)).bind fun t380 => (some (t380,0)))))) else ((sconceref03_Shr.f k t367 1).bind fun t383 => ((sconceref03_Nat.f k t383 (l0_0.length:Int)).bind fun t386 => (some (t386,0))))))) = some (r1,r2):=by rw [if_pos rfl] at H;exact H
  clear H
  have H:=H1
  clear H1
  replace H:=Option.bind_eq_some_iff.mp H
  obtain ⟨t367,A50,H⟩:=H
  replace H:((sconceref03_Bit.f t367 0).bind fun t370 => (if t370 = 1 then ((sconceref03_Of.f k l0_0).bind fun t371 => ((sconceref03_Add.f k t367 t371).bind fun t374 => ((sconceref03_Shr.f k t374 1).bind fun t377 => ((sconceref03_Nat.f k t377 (l0_0.length:Int)).bind fun t380 => (some (t380,0)))))) else ((sconceref03_Shr.f k t367 1).bind fun t383 => ((sconceref03_Nat.f k t383 (l0_0.length:Int)).bind fun t386 => (some (t386,0)))))) = some (r1,r2):=H
  have A5:=Aside0.mk A50
  clear A50
  replace H:=Option.bind_eq_some_iff.mp H
  obtain ⟨t370,A60,H⟩:=H
  replace H:(if t370 = 1 then ((sconceref03_Of.f k l0_0).bind fun t371 => ((sconceref03_Add.f k t367 t371).bind fun t374 => ((sconceref03_Shr.f k t374 1).bind fun t377 => ((sconceref03_Nat.f k t377 (l0_0.length:Int)).bind fun t380 => (some (t380,0)))))) else ((sconceref03_Shr.f k t367 1).bind fun t383 => ((sconceref03_Nat.f k t383 (l0_0.length:Int)).bind fun t386 => (some (t386,0))))) = some (r1,r2):=H
  have A6:=Aside0.mk A60
  clear A60
  by_cases c7:t370 = 1
  ·
   rw [if_pos c7] at H
   have c7b0:(t370 == 1) = true:=beq_iff_eq.mpr c7
   have c7b1:(t370 != 1) = false:=bne_eq_false_iff_eq.mpr c7
   clear c7
   replace H:=Option.bind_eq_some_iff.mp H
   obtain ⟨t371,A80,H⟩:=H
   replace H:((sconceref03_Add.f k t367 t371).bind fun t374 => ((sconceref03_Shr.f k t374 1).bind fun t377 => ((sconceref03_Nat.f k t377 (l0_0.length:Int)).bind fun t380 => (some (t380,0))))) = some (r1,r2):=H
   have A8:=Aside0.mk A80
   clear A80
   replace H:=Option.bind_eq_some_iff.mp H
   obtain ⟨t374,A90,H⟩:=H
   replace H:((sconceref03_Shr.f k t374 1).bind fun t377 => ((sconceref03_Nat.f k t377 (l0_0.length:Int)).bind fun t380 => (some (t380,0)))) = some (r1,r2):=H
   have A9:=Aside0.mk A90
   clear A90
   replace H:=Option.bind_eq_some_iff.mp H
   obtain ⟨t377,A100,H⟩:=H
   replace H:((sconceref03_Nat.f k t377 (l0_0.length:Int)).bind fun t380 => (some (t380,0))) = some (r1,r2):=H
   have A10:=Aside0.mk A100
   clear A100
   replace H:=Option.bind_eq_some_iff.mp H
   obtain ⟨t380,A110,H⟩:=H
   replace H:(some (t380,0)) = some (r1,r2):=H
   have A11:=Aside0.mk A110
   clear A110
   simp only [Option.some.injEq,Prod.mk.injEq] at H
   obtain ⟨rfl,rfl⟩:=H
   go_enter Try.func19,Try.ntmps19
   try go_wp2_with (first | ((with_reducible refine gate_dst (N:=2) rfl ?_);refine box_event ?hg (N:=2) ?hd (cs:=#[.slice A0_0 l0_0.length c0_0,.int .u64 a0_1,.slice A0_2 l0_2.length c0_2]) (t:=26) ?hr ?_;(case hd => rfl);(case hg => rfl);(case hr => first | (go_simp;done) | (go_simp;rfl));intro gb362 hg w12 hbox hb;have n0_:=Aside0.mk (Kd.V_below (Kd.V_elderB (vV HO1.out) gb362 (Nat.le_of_eq hg.symm)) hb);have n1_:=Aside0.mk (below_step (vB HB.out) hb);have n2_:=Aside0.mk (hbox);have n3_:=Aside0.mk ((by rw [hg];exact (below_size (vB HB.out)):w.heap.size≤gb362));have n4_:=Aside0.mk ((by rw [hg];exact (below_size (vB HB.out)):w.heap.size≤gb362));clear HO1;clear HB;have HO1:=n0_;have HB:=n1_;have BK362:=n2_;have GW362:=n3_;have GE362:=n4_;clear n0_ n1_ n2_ n3_ n4_;clear hb hbox hg;have hcz13_0:w12.cell? ⟨gb362,0,none⟩ = some (.slice A0_0 l0_0.length c0_0):=(blk_cell BK362.out 0).trans rfl;have hcz13_1:w12.cell? ⟨gb362,1,none⟩ = some (.int .u64 a0_1):=(blk_cell BK362.out 1).trans rfl;have hcz13_2:w12.cell? ⟨gb362,2,none⟩ = some (.slice A0_2 l0_2.length c0_2):=(blk_cell BK362.out 2).trans rfl;have hfz13_0:=blk_frozen BK362.out 0;have hfz13_1:=blk_frozen BK362.out 1;have hfz13_2:=blk_frozen BK362.out 2) | ((with_reducible refine gate_dst (N:=9) rfl ?_);refine Kd.N_lit (Kd.slice 24 (Kd.int .u64)) _ 23 ?hg (N':=9) ?hd (xs:=([l1]:List (List Int))) (inner:=[.slice A1 l1.length c1]) (ok:=(fun k_ => (P1_ k_∨w.heap.size≤k_)∧k_≠gb362)) (okp:=(fun k_ => (P1_ k_∨w.heap.size≤k_)∧k_≠gb362)) ?hr ?hp (fun _ hk => hk) ((show ∀ k_,w12.heap.size≤k_→(fun k_ => (P1_ k_∨w.heap.size≤k_)∧k_≠gb362) k_ from fun k_ hk => ⟨(.inr (Nat.le_trans (below_size (vBg HB.out GE362.out)) hk)),Kd.freshB (g:=gb362) (o:=.cells #[.slice A0_0 l0_0.length c0_0,.int .u64 a0_1,.slice A0_2 l0_2.length c0_2] 26 (0,0)) (vK BK362.out) k_ hk⟩) _ (Nat.le_refl _)) (Below.refl _ _) (Nat.le_refl _) (by simp) ?_;(case hd => rfl);(case hg => rfl);(case hr => first | (go_simp;done) | (go_simp;rfl));(case hp => exact (Reps.one (show Kd.FK (Kd.slice 24 (Kd.int .u64)) _ _ l1 [.slice A1 l1.length c1] from (Kd.FK_slice_mk (Kd.V_reads' (Kd.V_mono (ok':=(fun k_ => (P1_ k_∨w.heap.size≤k_)∧k_≠gb362)) (HO1.out) (fun k_ hk => ⟨hk.1,hk.2⟩))).2.1 (Kd.V_F (by (with_reducible repeat (first | apply Kd.V_alloc | apply Kd.V_drewN | apply Kd.V_drew));exact (Kd.V_mono (ok':=(fun k_ => (P1_ k_∨w.heap.size≤k_)∧k_≠gb362)) (HO1.out) (fun k_ hk => ⟨hk.1,hk.2⟩)))))) (Reps.none _ _)));intro v364 w14 ho15 hb hg_ hnew_;clear hg_ hnew_;(first | rw [← Ny363.out] at ho15 | (simp only [Int.reduceToNat] at ho15;rw [← Ny363.out] at ho15));have n0_:=Aside0.mk (Kd.V_elder' (vV HO1.out) (Kd.N_base ho15) hb);have n1_:=Aside0.mk (Kd.N_lower ho15 (below_size (vBg HB.out GE362.out)));have n2_:=Aside0.mk (blk_below (g:=gb362) (o:=.cells #[.slice A0_0 l0_0.length c0_0,.int .u64 a0_1,.slice A0_2 l0_2.length c0_2] 26 (0,0)) (vK BK362.out) hb);have n3_:=Aside0.mk (below_step (vBg HB.out GE362.out) hb);clear HO1;clear BK362;clear HB;have HO1:=n0_;have HO365:=n1_;have BK362:=n2_;have HB:=n3_;clear n0_ n1_ n2_ n3_;clear hb ho15;obtain ⟨Ao16,co16,eo16⟩:=Kd.N_slice HO365.out;subst eo16) | ((with_reducible refine gate_callee (f:=34) rfl ?_);refine goesL_ (some 10) rfl rfl Try.func34 (by kernel_rfl) rfl #[.agg #[.slice A0_0 l0_0.length c0_0,.int .u64 a0_1,.slice A0_2 l0_2.length c0_2],.slice Ao16 y363.length co16] rfl vA ?_;(with_reducible refine (sconceref07_Members.calls k _ _ l0_0 a0_1 _ _ l0_2 _ _ y363 true _ ?side1 ?side2 ?side3 ?side4 ?side5 ?side6 A3.out).mono ?_);(case side1 => repeat (first | exact (Kd.C_below HR0_0.out HB.out) | (with_reducible refine Kd.C_alloc ?_ _) | (with_reducible refine Kd.C_drewN ?_ _) | (with_reducible refine Kd.C_drew ?_)));(case side2 => exact HC0_0.out);(case side3 => repeat (first | exact (Kd.C_below HR0_2.out HB.out) | (with_reducible refine Kd.C_alloc ?_ _) | (with_reducible refine Kd.C_drewN ?_ _) | (with_reducible refine Kd.C_drew ?_)));(case side4 => exact HC0_2.out);(case side5 => repeat (first | exact (Kd.N_reads' HO365.out).2.2 | (with_reducible refine Kd.C_alloc ?_ _) | (with_reducible refine Kd.C_drewN ?_ _) | (with_reducible refine Kd.C_drew ?_)));(case side6 => exact (Kd.N_reads' HO365.out).2.1);rintro e w17 ⟨rfl,hb⟩;refine ⟨_,rfl,?_⟩;have n0_:=Aside0.mk (Kd.V_below (vV HO1.out) hb);have n1_:=Aside0.mk (Kd.N_below (by (with_reducible repeat (first | apply Kd.N_alloc | apply Kd.N_drewN | apply Kd.N_drew));exact HO365.out) hb);have n2_:=Aside0.mk (blk_below (g:=gb362) (o:=.cells #[.slice A0_0 l0_0.length c0_0,.int .u64 a0_1,.slice A0_2 l0_2.length c0_2] 26 (0,0)) (vK BK362.out) hb);have n3_:=Aside0.mk (below_step (vBg HB.out GE362.out) hb);clear HO1;clear HO365;clear BK362;clear HB;have HO1:=n0_;have HO365:=n1_;have BK362:=n2_;have HB:=n3_;clear n0_ n1_ n2_ n3_;(try clear hb);(try clear hb2);(try clear hk);(try clear hi)) | ((with_reducible refine gate_callee (f:=47) rfl ?_);refine goesL_ (some 13) rfl rfl Try.func47 (by kernel_rfl) rfl #[.slice A1 l1.length c1] rfl vA ?_;(with_reducible refine (sconceref03_Of.calls k _ _ l1 t367 _ ?side1 ?side2 A5.out).mono ?_);(case side1 => repeat (first | exact (Kd.V_reads' HO1.out).2.2 | (with_reducible refine Kd.C_alloc ?_ _) | (with_reducible refine Kd.C_drewN ?_ _) | (with_reducible refine Kd.C_drew ?_)));(case side2 => exact (Kd.V_reads' HO1.out).2.1);rintro e w18 ⟨v368,rfl,ho0,hb⟩;refine ⟨_,rfl,?_⟩;have n0_:=Aside0.mk (Kd.V_below (vV HO1.out) hb);have n1_:=Aside0.mk (Kd.N_below (by (with_reducible repeat (first | apply Kd.N_alloc | apply Kd.N_drewN | apply Kd.N_drew));exact HO365.out) hb);have n2_:=Aside0.mk (Kd.V_lower (Kd.V_mono (ok':=fun k_ => (P1_ k_∨w.heap.size≤k_)∧some k_≠(.slice Ao16 y363.length co16:Value).ownBlock∧k_≠gb362) ho0 (fun k_ hk_ => ⟨(.inr (Nat.le_trans (below_size (vBg HB.out GE362.out)) hk_)),(Kd.fresh' (Kd.N_lt (by (with_reducible repeat (first | apply Kd.N_alloc | apply Kd.N_drewN | apply Kd.N_drew));exact HO365.out)) k_ hk_),(Kd.freshB (g:=gb362) (o:=.cells #[.slice A0_0 l0_0.length c0_0,.int .u64 a0_1,.slice A0_2 l0_2.length c0_2] 26 (0,0)) (vK BK362.out) k_ hk_)⟩)) (below_size (vBg HB.out GE362.out)));have n3_:=Aside0.mk (blk_below (g:=gb362) (o:=.cells #[.slice A0_0 l0_0.length c0_0,.int .u64 a0_1,.slice A0_2 l0_2.length c0_2] 26 (0,0)) (vK BK362.out) hb);have n4_:=Aside0.mk (below_step (vBg HB.out GE362.out) hb);clear HO1;clear HO365;clear BK362;clear HB;have HO1:=n0_;have HO365:=n1_;have HO369:=n2_;have BK362:=n3_;have HB:=n4_;clear n0_ n1_ n2_ n3_ n4_;(try clear hb);(try clear hb2);(try clear hk);(try clear hi);(try clear ho0);obtain ⟨Ao19,co19,eo19⟩:=Kd.V_slice HO369.out;subst eo19) | ((with_reducible refine gate_callee (f:=66) rfl ?_);refine goesL_ (some 15) rfl rfl Try.func66 (by kernel_rfl) rfl #[.slice Ao19 t367.length co19,.int .i64 0] rfl vA ?_;(with_reducible refine (sconceref03_Bit.calls _ _ t367 0 t370 _ ?side1 ?side2 A6.out).mono ?_);(case side1 => repeat (first | exact (Kd.V_reads' HO369.out).2.2 | (with_reducible refine Kd.C_alloc ?_ _) | (with_reducible refine Kd.C_drewN ?_ _) | (with_reducible refine Kd.C_drew ?_)));(case side2 => exact (Kd.V_reads' HO369.out).2.1);rintro e w' ⟨rfl,⟨nd,rfl⟩⟩;refine ⟨_,rfl,?_⟩;have hcz20_0:w18.cell? ⟨gb362,0,none⟩ = some (.slice A0_0 l0_0.length c0_0):=(blk_cell BK362.out 0).trans rfl;have hcz20_1:w18.cell? ⟨gb362,1,none⟩ = some (.int .u64 a0_1):=(blk_cell BK362.out 1).trans rfl;have hcz20_2:w18.cell? ⟨gb362,2,none⟩ = some (.slice A0_2 l0_2.length c0_2):=(blk_cell BK362.out 2).trans rfl;have hfz20_0:=blk_frozen BK362.out 0;have hfz20_1:=blk_frozen BK362.out 1;have hfz20_2:=blk_frozen BK362.out 2) | ((with_reducible refine gate_callee (f:=47) rfl ?_);refine goesL_ (some 20) rfl rfl Try.func47 (by kernel_rfl) rfl #[.slice A0_0 l0_0.length c0_0] rfl vA ?_;(with_reducible refine (sconceref03_Of.calls k _ _ l0_0 t371 _ ?side1 ?side2 A8.out).mono ?_);(case side1 => repeat (first | exact (Kd.C_below HR0_0.out (vBg HB.out GE362.out)) | (with_reducible refine Kd.C_alloc ?_ _) | (with_reducible refine Kd.C_drewN ?_ _) | (with_reducible refine Kd.C_drew ?_)));(case side2 => exact HC0_0.out);rintro e w21 ⟨v372,rfl,ho0,hb⟩;refine ⟨_,rfl,?_⟩;have n0_:=Aside0.mk (Kd.V_below (vV HO1.out) hb);have n1_:=Aside0.mk (Kd.N_below (by (with_reducible repeat (first | apply Kd.N_alloc | apply Kd.N_drewN | apply Kd.N_drew));exact HO365.out) hb);have n2_:=Aside0.mk (Kd.V_below (vV HO369.out) hb);have n3_:=Aside0.mk (Kd.V_lower (Kd.V_mono (ok':=fun k_ => (P1_ k_∨w.heap.size≤k_)∧some k_≠(.slice Ao16 y363.length co16:Value).ownBlock∧k_≠gb362) ho0 (fun k_ hk_ => ⟨(.inr (Nat.le_trans (below_size (vBg HB.out GE362.out)) hk_)),(Kd.fresh' (Kd.N_lt (by (with_reducible repeat (first | apply Kd.N_alloc | apply Kd.N_drewN | apply Kd.N_drew));exact HO365.out)) k_ hk_),(Kd.freshB (g:=gb362) (o:=.cells #[.slice A0_0 l0_0.length c0_0,.int .u64 a0_1,.slice A0_2 l0_2.length c0_2] 26 (0,0)) (vK BK362.out) k_ hk_)⟩)) (below_size (vBg HB.out GE362.out)));have n4_:=Aside0.mk (blk_below (g:=gb362) (o:=.cells #[.slice A0_0 l0_0.length c0_0,.int .u64 a0_1,.slice A0_2 l0_2.length c0_2] 26 (0,0)) (vK BK362.out) hb);have n5_:=Aside0.mk (below_step (vBg HB.out GE362.out) hb);clear HO1;clear HO365;clear HO369;clear BK362;clear HB;have HO1:=n0_;have HO365:=n1_;have HO369:=n2_;have HO373:=n3_;have BK362:=n4_;have HB:=n5_;clear n0_ n1_ n2_ n3_ n4_ n5_;(try clear hb);(try clear hb2);(try clear hk);(try clear hi);(try clear ho0);obtain ⟨Ao22,co22,eo22⟩:=Kd.V_slice HO373.out;subst eo22) | ((with_reducible refine gate_callee (f:=46) rfl ?_);refine goesL_ (some 21) rfl rfl Try.func46 (by kernel_rfl) rfl #[.slice Ao19 t367.length co19,.slice Ao22 t371.length co22] rfl vA ?_;(with_reducible refine (sconceref03_Add.calls k _ _ t367 _ _ t371 t374 _ ?side1 ?side2 ?side3 ?side4 A9.out).mono ?_);(case side1 => repeat (first | exact (Kd.V_reads' HO369.out).2.2 | (with_reducible refine Kd.C_alloc ?_ _) | (with_reducible refine Kd.C_drewN ?_ _) | (with_reducible refine Kd.C_drew ?_)));(case side2 => exact (Kd.V_reads' HO369.out).2.1);(case side3 => repeat (first | exact (Kd.V_reads' HO373.out).2.2 | (with_reducible refine Kd.C_alloc ?_ _) | (with_reducible refine Kd.C_drewN ?_ _) | (with_reducible refine Kd.C_drew ?_)));(case side4 => exact (Kd.V_reads' HO373.out).2.1);rintro e w23 ⟨v375,rfl,ho0,hb⟩;refine ⟨_,rfl,?_⟩;have n0_:=Aside0.mk (Kd.V_below (vV HO1.out) hb);have n1_:=Aside0.mk (Kd.N_below (by (with_reducible repeat (first | apply Kd.N_alloc | apply Kd.N_drewN | apply Kd.N_drew));exact HO365.out) hb);have n2_:=Aside0.mk (Kd.V_below (vV HO369.out) hb);have n3_:=Aside0.mk (Kd.V_below (vV HO373.out) hb);have n4_:=Aside0.mk (Kd.V_lower (Kd.V_mono (ok':=fun k_ => (P1_ k_∨w.heap.size≤k_)∧some k_≠(.slice Ao16 y363.length co16:Value).ownBlock∧k_≠gb362) ho0 (fun k_ hk_ => ⟨(.inr (Nat.le_trans (below_size (vBg HB.out GE362.out)) hk_)),(Kd.fresh' (Kd.N_lt (by (with_reducible repeat (first | apply Kd.N_alloc | apply Kd.N_drewN | apply Kd.N_drew));exact HO365.out)) k_ hk_),(Kd.freshB (g:=gb362) (o:=.cells #[.slice A0_0 l0_0.length c0_0,.int .u64 a0_1,.slice A0_2 l0_2.length c0_2] 26 (0,0)) (vK BK362.out) k_ hk_)⟩)) (below_size (vBg HB.out GE362.out)));have n5_:=Aside0.mk (blk_below (g:=gb362) (o:=.cells #[.slice A0_0 l0_0.length c0_0,.int .u64 a0_1,.slice A0_2 l0_2.length c0_2] 26 (0,0)) (vK BK362.out) hb);have n6_:=Aside0.mk (below_step (vBg HB.out GE362.out) hb);clear HO1;clear HO365;clear HO369;clear HO373;clear BK362;clear HB;have HO1:=n0_;have HO365:=n1_;have HO369:=n2_;have HO373:=n3_;have HO376:=n4_;have BK362:=n5_;have HB:=n6_;clear n0_ n1_ n2_ n3_ n4_ n5_ n6_;(try clear hb);(try clear hb2);(try clear hk);(try clear hi);(try clear ho0)))
   have n0_:=Aside0.mk (Kd.V_drew HO1.out)
   have n1_:=Aside0.mk (Kd.N_drew HO365.out)
   have n2_:=Aside0.mk (Kd.V_drew HO369.out)
   have n3_:=Aside0.mk (Kd.V_drew HO373.out)
   have n4_:=Aside0.mk (Kd.V_drew HO376.out)
   have n5_:=Aside0.mk (blk_drew BK362.out)
   have n6_:=Aside0.mk (below_drew1 HB.out)
   clear HO1
   clear HO365
   clear HO369
   clear HO373
   clear HO376
   clear BK362
   clear HB
   have HO1:=n0_
   have HO365:=n1_
   have HO369:=n2_
   have HO373:=n3_
   have HO376:=n4_
   have BK362:=n5_
   have HB:=n6_
   clear n0_ n1_ n2_ n3_ n4_ n5_ n6_
   obtain ⟨Ao25,co25,eo25⟩:=Kd.V_slice HO376.out
   (first | subst eo25 | (injection eo25 with f1_ f2_ f3_;have f4_:=f1_.symm;have f5_:=f3_.symm;clear f1_ f2_ f3_;subst f4_;subst f5_))
   refine start_ (n:=8) (S:=fun w' => w'.cell? ⟨gb362,0,none⟩ = some (.slice A0_0 l0_0.length c0_0)∧w'.cell? ⟨gb362,1,none⟩ = some (.int .u64 a0_1)∧w'.cell? ⟨gb362,2,none⟩ = some (.slice A0_2 l0_2.length c0_2)) (ds:=[]) #[false,false,false,false,false,false,false,false] (by kernel_rfl) rfl rfl ⟨(blk_cell BK362.out 0).trans rfl,(blk_cell BK362.out 1).trans rfl,(blk_cell BK362.out 2).trans rfl⟩ (fun hHeld => ?_);refine with_tabW sconceref07_Half.tab6 sconceref07_Half.bits6 (fun HT_ HW_ => ?_)
   generalize w23.drew = w24 at HO1 HO365 HO369 HO373 HO376 BK362 HB hHeld ⊢
   refine pure_ (i:=0) (N:=some 22) (v:=?_) (a':=?_) #[true,false,false,false,false,false,false,false] rfl rfl (any_of HT_.out (by kernel_rfl)) (fun _ _ _ h => h) (Or.inl ⟨by rfl,?_⟩) ?_ ?_
   rotate_left
   ·
    exact vQ
   rotate_left
   ·
    exact vP
   refine pure_ (i:=2) (N:=some 24) (v:=?_) (a':=?_) #[true,false,true,false,false,false,false,false] rfl rfl (any_of HT_.out (by kernel_rfl)) (fun _ _ _ h => h) (Or.inl ⟨by rfl,?_⟩) ?_ ?_
   rotate_left
   ·
    exact vQ
   rotate_left
   ·
    exact vP
   refine take_ (i:=3) (N:=some 25) (v:=?_) (a':=?_) #[true,false,true,true,false,false,false,false] rfl rfl (take_ofW HT_.out HW_.out (by kernel_rfl)) (fun _ _ _ h => h) (Or.inl ⟨by rfl,?_⟩) hHeld ?_ ?_
   rotate_left
   ·
    rintro w' ⟨s0,s1,s2⟩
    go_simp
    with_reducible rfl
   rotate_left
   ·
    exact vP
   refine pure_ (i:=4) (N:=some 26) (v:=?_) (a':=?_) #[true,false,true,true,true,false,false,false] rfl rfl (any_of HT_.out (by kernel_rfl)) (fun _ _ _ h => h) (Or.inl ⟨by rfl,?_⟩) ?_ ?_
   rotate_left
   ·
    exact vQ
   rotate_left
   ·
    exact vP
   refine one_ (i:=1) (N:=some 23) #[true,true,true,true,true,false,false,false] rfl rfl (one_of HT_.out (by kernel_rfl)) (by decide) (fun K hK => ?_)
   refine goes_ Try.func68 (by kernel_rfl) rfl #[.slice Ao25 t374.length co25,.int .i64 1] (by rfl) rfl rfl vA ?_
   with_reducible refine (sconceref03_Shr.calls k _ _ t374 1 t377 _ ?side1 ?side2 A10.out).mono ?_
   (case side1 => repeat (first | exact (Kd.V_reads' HO376.out).2.2 | (with_reducible refine Kd.C_alloc ?_ _) | (with_reducible refine Kd.C_drewN ?_ _) | (with_reducible refine Kd.C_drew ?_)))
   (case side2 => exact (Kd.V_reads' HO376.out).2.1)
   rintro e w26 ⟨v378,rfl,ho0,hb⟩
   refine ⟨_,rfl,?_⟩
   have n0_:=Aside0.mk (Kd.V_below (vV HO1.out) hb)
   have n1_:=Aside0.mk (Kd.N_below (by (with_reducible repeat (first | apply Kd.N_alloc | apply Kd.N_drewN | apply Kd.N_drew));exact HO365.out) hb)
   have n2_:=Aside0.mk (Kd.V_below (vV HO369.out) hb)
   have n3_:=Aside0.mk (Kd.V_below (vV HO373.out) hb)
   have n4_:=Aside0.mk (Kd.V_below (vV HO376.out) hb)
   have n5_:=Aside0.mk (Kd.V_lower (Kd.V_mono (ok':=fun k_ => (P1_ k_∨w.heap.size≤k_)∧some k_≠(.slice Ao16 y363.length co16:Value).ownBlock∧k_≠gb362) ho0 (fun k_ hk_ => ⟨(.inr (Nat.le_trans (below_size (vBg HB.out GE362.out)) hk_)),(Kd.fresh' (Kd.N_lt (by (with_reducible repeat (first | apply Kd.N_alloc | apply Kd.N_drewN | apply Kd.N_drew));exact HO365.out)) k_ hk_),(Kd.freshB (g:=gb362) (o:=.cells #[.slice A0_0 l0_0.length c0_0,.int .u64 a0_1,.slice A0_2 l0_2.length c0_2] 26 (0,0)) (vK BK362.out) k_ hk_)⟩)) (below_size (vBg HB.out GE362.out)))
   have n6_:=Aside0.mk (blk_below (g:=gb362) (o:=.cells #[.slice A0_0 l0_0.length c0_0,.int .u64 a0_1,.slice A0_2 l0_2.length c0_2] 26 (0,0)) (vK BK362.out) hb)
   have n7_:=Aside0.mk (below_step (vBg HB.out GE362.out) hb)
   clear HO1
   clear HO365
   clear HO369
   clear HO373
   clear HO376
   clear BK362
   clear HB
   have HO1:=n0_
   have HO365:=n1_
   have HO369:=n2_
   have HO373:=n3_
   have HO376:=n4_
   have HO379:=n5_
   have BK362:=n6_
   have HB:=n7_
   clear n0_ n1_ n2_ n3_ n4_ n5_ n6_ n7_
   (try clear hb)
   (try clear hb2)
   (try clear hk)
   (try clear hi)
   (try clear ho0)
   obtain ⟨Ao27,co27,eo27⟩:=Kd.V_slice HO379.out
   (first | subst eo27 | (injection eo27 with f1_ f2_ f3_;have f4_:=f1_.symm;have f5_:=f3_.symm;clear f1_ f2_ f3_;subst f4_;subst f5_))
   refine hK.out _ _ ⟨(blk_cell BK362.out 0).trans rfl,(blk_cell BK362.out 1).trans rfl,(blk_cell BK362.out 2).trans rfl⟩ (fun hHeld => ?_)
   clear hK K
   refine norm_ (a':=?_) ?_ ?_
   rotate_left
   ·
    show Act.put _ (some 23) _ = _
    simp only [Act.put,List.setIfInBounds_toArray,List.set_cons_zero,List.set_cons_succ,i64_w,i32_w]
    rfl
   refine one_ (i:=5) (N:=some 27) #[true,true,true,true,true,true,false,false] rfl rfl (one_of HT_.out (by kernel_rfl)) (by decide) (fun K hK => ?_)
   refine goes_ Try.func67 (by kernel_rfl) rfl #[.slice Ao27 t377.length co27,.int .i64 (l0_0.length:Int)] (by rfl) rfl rfl vA ?_
   with_reducible refine (sconceref03_Nat.calls k _ _ t377 (l0_0.length:Int) t380 _ ?side1 ?side2 A11.out).mono ?_
   (case side1 => repeat (first | exact (Kd.V_reads' HO379.out).2.2 | (with_reducible refine Kd.C_alloc ?_ _) | (with_reducible refine Kd.C_drewN ?_ _) | (with_reducible refine Kd.C_drew ?_)))
   (case side2 => exact (Kd.V_reads' HO379.out).2.1)
   rintro e w28 ⟨v381,rfl,ho0,hb⟩
   refine ⟨_,rfl,?_⟩
   have n0_:=Aside0.mk (Kd.V_elder' (vV HO1.out) (Kd.R_base ho0) hb)
   have n1_:=Aside0.mk (Kd.N_elder' (by (with_reducible repeat (first | apply Kd.N_alloc | apply Kd.N_drewN | apply Kd.N_drew));exact HO365.out) (Kd.R_base ho0) hb)
   have n2_:=Aside0.mk (Kd.V_elder' (vV HO369.out) (Kd.R_base ho0) hb)
   have n3_:=Aside0.mk (Kd.V_elder' (vV HO373.out) (Kd.R_base ho0) hb)
   have n4_:=Aside0.mk (Kd.V_elder' (vV HO376.out) (Kd.R_base ho0) hb)
   have n5_:=Aside0.mk (Kd.V_elder' (vV HO379.out) (Kd.R_base ho0) hb)
   have n6_:=Aside0.mk (Kd.R_lower (Kd.R_newM (M:=fun k_ => (w.heap.size≤k_)) ho0 (below_size (vBg HB.out GE362.out)) (fun k_ h_ => h_)) (below_size (vBg HB.out GE362.out)))
   have n7_:=Aside0.mk (blk_below (g:=gb362) (o:=.cells #[.slice A0_0 l0_0.length c0_0,.int .u64 a0_1,.slice A0_2 l0_2.length c0_2] 26 (0,0)) (vK BK362.out) hb)
   have n8_:=Aside0.mk (below_step (vBg HB.out GE362.out) hb)
   clear HO1
   clear HO365
   clear HO369
   clear HO373
   clear HO376
   clear HO379
   clear BK362
   clear HB
   have HO1:=n0_
   have HO365:=n1_
   have HO369:=n2_
   have HO373:=n3_
   have HO376:=n4_
   have HO379:=n5_
   have HO382:=n6_
   have BK362:=n7_
   have HB:=n8_
   clear n0_ n1_ n2_ n3_ n4_ n5_ n6_ n7_ n8_
   (try clear hb)
   (try clear hb2)
   (try clear hk)
   (try clear hi)
   (try clear ho0)
   refine hK.out _ _ ⟨(blk_cell BK362.out 0).trans rfl,(blk_cell BK362.out 1).trans rfl,(blk_cell BK362.out 2).trans rfl⟩ (fun hHeld => ?_)
   clear hK K
   refine norm_ (a':=?_) ?_ ?_
   rotate_left
   ·
    show Act.put _ (some 27) _ = _
    simp only [Act.put,List.setIfInBounds_toArray,List.set_cons_zero,List.set_cons_succ,i64_w,i32_w]
    rfl
   refine pure_ (i:=6) (N:=some 4) (v:=?_) (a':=?_) #[true,true,true,true,true,true,true,false] rfl rfl (any_of HT_.out (by kernel_rfl)) (fun _ _ _ h => h) (Or.inl ⟨by rfl,?_⟩) ?_ ?_
   rotate_left
   ·
    exact vQ
   rotate_left
   ·
    exact vP
   refine pure_ (i:=7) (N:=some 5) (v:=?_) (a':=?_) #[true,true,true,true,true,true,true,true] rfl rfl (any_of HT_.out (by kernel_rfl)) (fun _ _ _ h => h) (Or.inl ⟨by rfl,?_⟩) ?_ ?_
   rotate_left
   ·
    exact vQ
   rotate_left
   ·
    exact vP
   refine done_ (done_of HT_.out (by kernel_rfl)) ?_
   try go_wp2
   go_ret2
   exact ⟨_,by first | rfl | (simp [errW_none,errW_some] <;> rfl) | (simp [*,errW_none,errW_some] <;> rfl),by (with_reducible repeat (first | apply Kd.R_alloc | apply Kd.R_drewN | apply Kd.R_drew));exact Kd.R_mono HO382.out (fun _ hk => hk.1),by repeat (first | (with_reducible first | exact HB.out | apply below_alloc | apply pw_below_drewN | apply below_drew1 | refine below_set ?_ GE362.out) | exact HB.out)⟩
  ·
   rw [if_neg c7] at H
   have c7b0:(t370 == 1) = false:=beq_eq_false_iff_ne.mpr c7
   have c7b1:(t370 != 1) = true:=bne_iff_ne.mpr c7
   replace H:=Option.bind_eq_some_iff.mp H
   obtain ⟨t383,A290,H⟩:=H
   replace H:((sconceref03_Nat.f k t383 (l0_0.length:Int)).bind fun t386 => (some (t386,0))) = some (r1,r2):=H
   have A29:=Aside0.mk A290
   clear A290
   replace H:=Option.bind_eq_some_iff.mp H
   obtain ⟨t386,A300,H⟩:=H
   replace H:(some (t386,0)) = some (r1,r2):=H
   have A30:=Aside0.mk A300
   clear A300
   simp only [Option.some.injEq,Prod.mk.injEq] at H
   obtain ⟨rfl,rfl⟩:=H
   go_enter Try.func19,Try.ntmps19
   try go_wp2_with (first | ((with_reducible refine gate_dst (N:=2) rfl ?_);refine box_event ?hg (N:=2) ?hd (cs:=#[.slice A0_0 l0_0.length c0_0,.int .u64 a0_1,.slice A0_2 l0_2.length c0_2]) (t:=26) ?hr ?_;(case hd => rfl);(case hg => rfl);(case hr => first | (go_simp;done) | (go_simp;rfl));intro gb362 hg w31 hbox hb;have n0_:=Aside0.mk (Kd.V_below (Kd.V_elderB (vV HO1.out) gb362 (Nat.le_of_eq hg.symm)) hb);have n1_:=Aside0.mk (below_step (vB HB.out) hb);have n2_:=Aside0.mk (hbox);have n3_:=Aside0.mk ((by rw [hg];exact (below_size (vB HB.out)):w.heap.size≤gb362));have n4_:=Aside0.mk ((by rw [hg];exact (below_size (vB HB.out)):w.heap.size≤gb362));clear HO1;clear HB;have HO1:=n0_;have HB:=n1_;have BK362:=n2_;have GW362:=n3_;have GE362:=n4_;clear n0_ n1_ n2_ n3_ n4_;clear hb hbox hg;have hcz32_0:w31.cell? ⟨gb362,0,none⟩ = some (.slice A0_0 l0_0.length c0_0):=(blk_cell BK362.out 0).trans rfl;have hcz32_1:w31.cell? ⟨gb362,1,none⟩ = some (.int .u64 a0_1):=(blk_cell BK362.out 1).trans rfl;have hcz32_2:w31.cell? ⟨gb362,2,none⟩ = some (.slice A0_2 l0_2.length c0_2):=(blk_cell BK362.out 2).trans rfl;have hfz32_0:=blk_frozen BK362.out 0;have hfz32_1:=blk_frozen BK362.out 1;have hfz32_2:=blk_frozen BK362.out 2) | ((with_reducible refine gate_dst (N:=9) rfl ?_);refine Kd.N_lit (Kd.slice 24 (Kd.int .u64)) _ 23 ?hg (N':=9) ?hd (xs:=([l1]:List (List Int))) (inner:=[.slice A1 l1.length c1]) (ok:=(fun k_ => (P1_ k_∨w.heap.size≤k_)∧k_≠gb362)) (okp:=(fun k_ => (P1_ k_∨w.heap.size≤k_)∧k_≠gb362)) ?hr ?hp (fun _ hk => hk) ((show ∀ k_,w31.heap.size≤k_→(fun k_ => (P1_ k_∨w.heap.size≤k_)∧k_≠gb362) k_ from fun k_ hk => ⟨(.inr (Nat.le_trans (below_size (vBg HB.out GE362.out)) hk)),Kd.freshB (g:=gb362) (o:=.cells #[.slice A0_0 l0_0.length c0_0,.int .u64 a0_1,.slice A0_2 l0_2.length c0_2] 26 (0,0)) (vK BK362.out) k_ hk⟩) _ (Nat.le_refl _)) (Below.refl _ _) (Nat.le_refl _) (by simp) ?_;(case hd => rfl);(case hg => rfl);(case hr => first | (go_simp;done) | (go_simp;rfl));(case hp => exact (Reps.one (show Kd.FK (Kd.slice 24 (Kd.int .u64)) _ _ l1 [.slice A1 l1.length c1] from (Kd.FK_slice_mk (Kd.V_reads' (Kd.V_mono (ok':=(fun k_ => (P1_ k_∨w.heap.size≤k_)∧k_≠gb362)) (HO1.out) (fun k_ hk => ⟨hk.1,hk.2⟩))).2.1 (Kd.V_F (by (with_reducible repeat (first | apply Kd.V_alloc | apply Kd.V_drewN | apply Kd.V_drew));exact (Kd.V_mono (ok':=(fun k_ => (P1_ k_∨w.heap.size≤k_)∧k_≠gb362)) (HO1.out) (fun k_ hk => ⟨hk.1,hk.2⟩)))))) (Reps.none _ _)));intro v364 w33 ho34 hb hg_ hnew_;clear hg_ hnew_;(first | rw [← Ny363.out] at ho34 | (simp only [Int.reduceToNat] at ho34;rw [← Ny363.out] at ho34));have n0_:=Aside0.mk (Kd.V_elder' (vV HO1.out) (Kd.N_base ho34) hb);have n1_:=Aside0.mk (Kd.N_lower ho34 (below_size (vBg HB.out GE362.out)));have n2_:=Aside0.mk (blk_below (g:=gb362) (o:=.cells #[.slice A0_0 l0_0.length c0_0,.int .u64 a0_1,.slice A0_2 l0_2.length c0_2] 26 (0,0)) (vK BK362.out) hb);have n3_:=Aside0.mk (below_step (vBg HB.out GE362.out) hb);clear HO1;clear BK362;clear HB;have HO1:=n0_;have HO365:=n1_;have BK362:=n2_;have HB:=n3_;clear n0_ n1_ n2_ n3_;clear hb ho34;obtain ⟨Ao35,co35,eo35⟩:=Kd.N_slice HO365.out;subst eo35) | ((with_reducible refine gate_callee (f:=34) rfl ?_);refine goesL_ (some 10) rfl rfl Try.func34 (by kernel_rfl) rfl #[.agg #[.slice A0_0 l0_0.length c0_0,.int .u64 a0_1,.slice A0_2 l0_2.length c0_2],.slice Ao35 y363.length co35] rfl vA ?_;(with_reducible refine (sconceref07_Members.calls k _ _ l0_0 a0_1 _ _ l0_2 _ _ y363 true _ ?side1 ?side2 ?side3 ?side4 ?side5 ?side6 A3.out).mono ?_);(case side1 => repeat (first | exact (Kd.C_below HR0_0.out HB.out) | (with_reducible refine Kd.C_alloc ?_ _) | (with_reducible refine Kd.C_drewN ?_ _) | (with_reducible refine Kd.C_drew ?_)));(case side2 => exact HC0_0.out);(case side3 => repeat (first | exact (Kd.C_below HR0_2.out HB.out) | (with_reducible refine Kd.C_alloc ?_ _) | (with_reducible refine Kd.C_drewN ?_ _) | (with_reducible refine Kd.C_drew ?_)));(case side4 => exact HC0_2.out);(case side5 => repeat (first | exact (Kd.N_reads' HO365.out).2.2 | (with_reducible refine Kd.C_alloc ?_ _) | (with_reducible refine Kd.C_drewN ?_ _) | (with_reducible refine Kd.C_drew ?_)));(case side6 => exact (Kd.N_reads' HO365.out).2.1);rintro e w36 ⟨rfl,hb⟩;refine ⟨_,rfl,?_⟩;have n0_:=Aside0.mk (Kd.V_below (vV HO1.out) hb);have n1_:=Aside0.mk (Kd.N_below (by (with_reducible repeat (first | apply Kd.N_alloc | apply Kd.N_drewN | apply Kd.N_drew));exact HO365.out) hb);have n2_:=Aside0.mk (blk_below (g:=gb362) (o:=.cells #[.slice A0_0 l0_0.length c0_0,.int .u64 a0_1,.slice A0_2 l0_2.length c0_2] 26 (0,0)) (vK BK362.out) hb);have n3_:=Aside0.mk (below_step (vBg HB.out GE362.out) hb);clear HO1;clear HO365;clear BK362;clear HB;have HO1:=n0_;have HO365:=n1_;have BK362:=n2_;have HB:=n3_;clear n0_ n1_ n2_ n3_;(try clear hb);(try clear hb2);(try clear hk);(try clear hi)) | ((with_reducible refine gate_callee (f:=47) rfl ?_);refine goesL_ (some 13) rfl rfl Try.func47 (by kernel_rfl) rfl #[.slice A1 l1.length c1] rfl vA ?_;(with_reducible refine (sconceref03_Of.calls k _ _ l1 t367 _ ?side1 ?side2 A5.out).mono ?_);(case side1 => repeat (first | exact (Kd.V_reads' HO1.out).2.2 | (with_reducible refine Kd.C_alloc ?_ _) | (with_reducible refine Kd.C_drewN ?_ _) | (with_reducible refine Kd.C_drew ?_)));(case side2 => exact (Kd.V_reads' HO1.out).2.1);rintro e w37 ⟨v368,rfl,ho0,hb⟩;refine ⟨_,rfl,?_⟩;have n0_:=Aside0.mk (Kd.V_below (vV HO1.out) hb);have n1_:=Aside0.mk (Kd.N_below (by (with_reducible repeat (first | apply Kd.N_alloc | apply Kd.N_drewN | apply Kd.N_drew));exact HO365.out) hb);have n2_:=Aside0.mk (Kd.V_lower (Kd.V_mono (ok':=fun k_ => (P1_ k_∨w.heap.size≤k_)∧some k_≠(.slice Ao35 y363.length co35:Value).ownBlock∧k_≠gb362) ho0 (fun k_ hk_ => ⟨(.inr (Nat.le_trans (below_size (vBg HB.out GE362.out)) hk_)),(Kd.fresh' (Kd.N_lt (by (with_reducible repeat (first | apply Kd.N_alloc | apply Kd.N_drewN | apply Kd.N_drew));exact HO365.out)) k_ hk_),(Kd.freshB (g:=gb362) (o:=.cells #[.slice A0_0 l0_0.length c0_0,.int .u64 a0_1,.slice A0_2 l0_2.length c0_2] 26 (0,0)) (vK BK362.out) k_ hk_)⟩)) (below_size (vBg HB.out GE362.out)));have n3_:=Aside0.mk (blk_below (g:=gb362) (o:=.cells #[.slice A0_0 l0_0.length c0_0,.int .u64 a0_1,.slice A0_2 l0_2.length c0_2] 26 (0,0)) (vK BK362.out) hb);have n4_:=Aside0.mk (below_step (vBg HB.out GE362.out) hb);clear HO1;clear HO365;clear BK362;clear HB;have HO1:=n0_;have HO365:=n1_;have HO369:=n2_;have BK362:=n3_;have HB:=n4_;clear n0_ n1_ n2_ n3_ n4_;(try clear hb);(try clear hb2);(try clear hk);(try clear hi);(try clear ho0);obtain ⟨Ao38,co38,eo38⟩:=Kd.V_slice HO369.out;subst eo38) | ((with_reducible refine gate_callee (f:=66) rfl ?_);refine goesL_ (some 15) rfl rfl Try.func66 (by kernel_rfl) rfl #[.slice Ao38 t367.length co38,.int .i64 0] rfl vA ?_;(with_reducible refine (sconceref03_Bit.calls _ _ t367 0 t370 _ ?side1 ?side2 A6.out).mono ?_);(case side1 => repeat (first | exact (Kd.V_reads' HO369.out).2.2 | (with_reducible refine Kd.C_alloc ?_ _) | (with_reducible refine Kd.C_drewN ?_ _) | (with_reducible refine Kd.C_drew ?_)));(case side2 => exact (Kd.V_reads' HO369.out).2.1);rintro e w' ⟨rfl,⟨nd,rfl⟩⟩;refine ⟨_,rfl,?_⟩))
   (try (rw [drewN_self w37];generalize hq_:World.drewN w37 _ = w37;have n0_:Aside0 (Kd.V (Kd.int .u64) 24 w37 w.heap.size (fun k_ => (P1_ k_∨w.heap.size≤k_)∧some k_≠(.slice Ao35 y363.length co35:Value).ownBlock∧k_≠gb362) (.slice A1 l1.length c1) l1):=⟨by rw [← hq_];exact (by (with_reducible repeat (first | apply Kd.V_alloc | apply Kd.V_drewN | apply Kd.V_drew));exact Kd.V_mono HO1.out (fun _ hk => ⟨hk.1.1,⟨hk.2,hk.1.2⟩⟩))⟩;have n1_:Aside0 (Kd.N (Kd.slice 24 (Kd.int .u64)) 23 w37 w.heap.size (fun k_ => (P1_ k_∨w.heap.size≤k_)∧k_≠gb362) (.slice Ao35 y363.length co35) y363):=⟨by rw [← hq_];exact (by (with_reducible repeat (first | apply Kd.N_alloc | apply Kd.N_drewN | apply Kd.N_drew));exact HO365.out)⟩;have n2_:Aside0 (Kd.V (Kd.int .u32) 83 w37 w.heap.size (fun k_ => (P1_ k_∨w.heap.size≤k_)∧some k_≠(.slice Ao35 y363.length co35:Value).ownBlock∧k_≠gb362) (.slice Ao38 t367.length co38) t367):=⟨by rw [← hq_];exact (vV HO369.out)⟩;have n3_:Aside0 (w37.heap[gb362]? = some (.cells #[.slice A0_0 l0_0.length c0_0,.int .u64 a0_1,.slice A0_2 l0_2.length c0_2] 26 (0,0))):=⟨by rw [← hq_];exact (vK BK362.out)⟩;have n4_:Aside0 (Below w.heap.size w w37):=⟨by rw [← hq_];exact (vBg HB.out GE362.out)⟩;clear HO1 HO365 HO369 BK362 HB hq_;have HO1:=n0_;have HO365:=n1_;have HO369:=n2_;have BK362:=n3_;have HB:=n4_;clear n0_ n1_ n2_ n3_ n4_))
   have n0_:=Aside0.mk (Kd.V_drew HO1.out)
   have n1_:=Aside0.mk (Kd.N_drew HO365.out)
   have n2_:=Aside0.mk (Kd.V_drew HO369.out)
   have n3_:=Aside0.mk (blk_drew BK362.out)
   have n4_:=Aside0.mk (below_drew1 HB.out)
   clear HO1
   clear HO365
   clear HO369
   clear BK362
   clear HB
   have HO1:=n0_
   have HO365:=n1_
   have HO369:=n2_
   have BK362:=n3_
   have HB:=n4_
   clear n0_ n1_ n2_ n3_ n4_
   refine start_ (n:=8) (S:=fun w' => w'.cell? ⟨gb362,0,none⟩ = some (.slice A0_0 l0_0.length c0_0)∧w'.cell? ⟨gb362,1,none⟩ = some (.int .u64 a0_1)∧w'.cell? ⟨gb362,2,none⟩ = some (.slice A0_2 l0_2.length c0_2)) (ds:=[]) #[false,false,false,false,false,false,false,false] (by kernel_rfl) rfl rfl ⟨(blk_cell BK362.out 0).trans rfl,(blk_cell BK362.out 1).trans rfl,(blk_cell BK362.out 2).trans rfl⟩ (fun hHeld => ?_);refine with_tabW sconceref07_Half.tab6 sconceref07_Half.bits6 (fun HT_ HW_ => ?_)
   generalize w37.drew = w39 at HO1 HO365 HO369 BK362 HB hHeld ⊢
   refine pure_ (i:=0) (N:=some 22) (v:=?_) (a':=?_) #[true,false,false,false,false,false,false,false] rfl rfl (any_of HT_.out (by kernel_rfl)) (fun _ _ _ h => h) (Or.inl ⟨by rfl,?_⟩) ?_ ?_
   rotate_left
   ·
    exact vQ
   rotate_left
   ·
    exact vP
   refine pure_ (i:=2) (N:=some 24) (v:=?_) (a':=?_) #[true,false,true,false,false,false,false,false] rfl rfl (any_of HT_.out (by kernel_rfl)) (fun _ _ _ h => h) (Or.inl ⟨by rfl,?_⟩) ?_ ?_
   rotate_left
   ·
    exact vQ
   rotate_left
   ·
    exact vP
   refine take_ (i:=3) (N:=some 25) (v:=?_) (a':=?_) #[true,false,true,true,false,false,false,false] rfl rfl (take_ofW HT_.out HW_.out (by kernel_rfl)) (fun _ _ _ h => h) (Or.inl ⟨by rfl,?_⟩) hHeld ?_ ?_
   rotate_left
   ·
    rintro w' ⟨s0,s1,s2⟩
    go_simp
    with_reducible rfl
   rotate_left
   ·
    exact vP
   refine pure_ (i:=4) (N:=some 26) (v:=?_) (a':=?_) #[true,false,true,true,true,false,false,false] rfl rfl (any_of HT_.out (by kernel_rfl)) (fun _ _ _ h => h) (Or.inl ⟨by rfl,?_⟩) ?_ ?_
   rotate_left
   ·
    exact vQ
   rotate_left
   ·
    exact vP
   refine one_ (i:=1) (N:=some 23) #[true,true,true,true,true,false,false,false] rfl rfl (one_of HT_.out (by kernel_rfl)) (by decide) (fun K hK => ?_)
   refine goes_ Try.func68 (by kernel_rfl) rfl #[.slice Ao38 t367.length co38,.int .i64 1] (by rfl) rfl rfl vA ?_
   with_reducible refine (sconceref03_Shr.calls k _ _ t367 1 t383 _ ?side1 ?side2 A29.out).mono ?_
   (case side1 => repeat (first | exact (Kd.V_reads' HO369.out).2.2 | (with_reducible refine Kd.C_alloc ?_ _) | (with_reducible refine Kd.C_drewN ?_ _) | (with_reducible refine Kd.C_drew ?_)))
   (case side2 => exact (Kd.V_reads' HO369.out).2.1)
   rintro e w40 ⟨v384,rfl,ho0,hb⟩
   refine ⟨_,rfl,?_⟩
   have n0_:=Aside0.mk (Kd.V_below (vV HO1.out) hb)
   have n1_:=Aside0.mk (Kd.N_below (by (with_reducible repeat (first | apply Kd.N_alloc | apply Kd.N_drewN | apply Kd.N_drew));exact HO365.out) hb)
   have n2_:=Aside0.mk (Kd.V_below (vV HO369.out) hb)
   have n3_:=Aside0.mk (Kd.V_lower (Kd.V_mono (ok':=fun k_ => (P1_ k_∨w.heap.size≤k_)∧some k_≠(.slice Ao35 y363.length co35:Value).ownBlock∧k_≠gb362) ho0 (fun k_ hk_ => ⟨(.inr (Nat.le_trans (below_size (vBg HB.out GE362.out)) hk_)),(Kd.fresh' (Kd.N_lt (by (with_reducible repeat (first | apply Kd.N_alloc | apply Kd.N_drewN | apply Kd.N_drew));exact HO365.out)) k_ hk_),(Kd.freshB (g:=gb362) (o:=.cells #[.slice A0_0 l0_0.length c0_0,.int .u64 a0_1,.slice A0_2 l0_2.length c0_2] 26 (0,0)) (vK BK362.out) k_ hk_)⟩)) (below_size (vBg HB.out GE362.out)))
   have n4_:=Aside0.mk (blk_below (g:=gb362) (o:=.cells #[.slice A0_0 l0_0.length c0_0,.int .u64 a0_1,.slice A0_2 l0_2.length c0_2] 26 (0,0)) (vK BK362.out) hb)
   have n5_:=Aside0.mk (below_step (vBg HB.out GE362.out) hb)
   clear HO1
   clear HO365
   clear HO369
   clear BK362
   clear HB
   have HO1:=n0_
   have HO365:=n1_
   have HO369:=n2_
   have HO385:=n3_
   have BK362:=n4_
   have HB:=n5_
   clear n0_ n1_ n2_ n3_ n4_ n5_
   (try clear hb)
   (try clear hb2)
   (try clear hk)
   (try clear hi)
   (try clear ho0)
   obtain ⟨Ao41,co41,eo41⟩:=Kd.V_slice HO385.out
   (first | subst eo41 | (injection eo41 with f1_ f2_ f3_;have f4_:=f1_.symm;have f5_:=f3_.symm;clear f1_ f2_ f3_;subst f4_;subst f5_))
   refine hK.out _ _ ⟨(blk_cell BK362.out 0).trans rfl,(blk_cell BK362.out 1).trans rfl,(blk_cell BK362.out 2).trans rfl⟩ (fun hHeld => ?_)
   clear hK K
   refine norm_ (a':=?_) ?_ ?_
   rotate_left
   ·
    show Act.put _ (some 23) _ = _
    simp only [Act.put,List.setIfInBounds_toArray,List.set_cons_zero,List.set_cons_succ,i64_w,i32_w]
    rfl
   refine one_ (i:=5) (N:=some 27) #[true,true,true,true,true,true,false,false] rfl rfl (one_of HT_.out (by kernel_rfl)) (by decide) (fun K hK => ?_)
   refine goes_ Try.func67 (by kernel_rfl) rfl #[.slice Ao41 t383.length co41,.int .i64 (l0_0.length:Int)] (by rfl) rfl rfl vA ?_
   with_reducible refine (sconceref03_Nat.calls k _ _ t383 (l0_0.length:Int) t386 _ ?side1 ?side2 A30.out).mono ?_
   (case side1 => repeat (first | exact (Kd.V_reads' HO385.out).2.2 | (with_reducible refine Kd.C_alloc ?_ _) | (with_reducible refine Kd.C_drewN ?_ _) | (with_reducible refine Kd.C_drew ?_)))
   (case side2 => exact (Kd.V_reads' HO385.out).2.1)
   rintro e w42 ⟨v387,rfl,ho0,hb⟩
   refine ⟨_,rfl,?_⟩
   have n0_:=Aside0.mk (Kd.V_elder' (vV HO1.out) (Kd.R_base ho0) hb)
   have n1_:=Aside0.mk (Kd.N_elder' (by (with_reducible repeat (first | apply Kd.N_alloc | apply Kd.N_drewN | apply Kd.N_drew));exact HO365.out) (Kd.R_base ho0) hb)
   have n2_:=Aside0.mk (Kd.V_elder' (vV HO369.out) (Kd.R_base ho0) hb)
   have n3_:=Aside0.mk (Kd.V_elder' (vV HO385.out) (Kd.R_base ho0) hb)
   have n4_:=Aside0.mk (Kd.R_lower (Kd.R_newM (M:=fun k_ => (w.heap.size≤k_)) ho0 (below_size (vBg HB.out GE362.out)) (fun k_ h_ => h_)) (below_size (vBg HB.out GE362.out)))
   have n5_:=Aside0.mk (blk_below (g:=gb362) (o:=.cells #[.slice A0_0 l0_0.length c0_0,.int .u64 a0_1,.slice A0_2 l0_2.length c0_2] 26 (0,0)) (vK BK362.out) hb)
   have n6_:=Aside0.mk (below_step (vBg HB.out GE362.out) hb)
   clear HO1
   clear HO365
   clear HO369
   clear HO385
   clear BK362
   clear HB
   have HO1:=n0_
   have HO365:=n1_
   have HO369:=n2_
   have HO385:=n3_
   have HO388:=n4_
   have BK362:=n5_
   have HB:=n6_
   clear n0_ n1_ n2_ n3_ n4_ n5_ n6_
   (try clear hb)
   (try clear hb2)
   (try clear hk)
   (try clear hi)
   (try clear ho0)
   refine hK.out _ _ ⟨(blk_cell BK362.out 0).trans rfl,(blk_cell BK362.out 1).trans rfl,(blk_cell BK362.out 2).trans rfl⟩ (fun hHeld => ?_)
   clear hK K
   refine norm_ (a':=?_) ?_ ?_
   rotate_left
   ·
    show Act.put _ (some 27) _ = _
    simp only [Act.put,List.setIfInBounds_toArray,List.set_cons_zero,List.set_cons_succ,i64_w,i32_w]
    rfl
   refine pure_ (i:=6) (N:=some 4) (v:=?_) (a':=?_) #[true,true,true,true,true,true,true,false] rfl rfl (any_of HT_.out (by kernel_rfl)) (fun _ _ _ h => h) (Or.inl ⟨by rfl,?_⟩) ?_ ?_
   rotate_left
   ·
    exact vQ
   rotate_left
   ·
    exact vP
   refine pure_ (i:=7) (N:=some 5) (v:=?_) (a':=?_) #[true,true,true,true,true,true,true,true] rfl rfl (any_of HT_.out (by kernel_rfl)) (fun _ _ _ h => h) (Or.inl ⟨by rfl,?_⟩) ?_ ?_
   rotate_left
   ·
    exact vQ
   rotate_left
   ·
    exact vP
   refine done_ (done_of HT_.out (by kernel_rfl)) ?_
   try go_wp2
   go_ret2
   exact ⟨_,by first | rfl | (simp [errW_none,errW_some] <;> rfl) | (simp [*,errW_none,errW_some] <;> rfl),by (with_reducible repeat (first | apply Kd.R_alloc | apply Kd.R_drewN | apply Kd.R_drew));exact Kd.R_mono HO388.out (fun _ hk => hk.1),by repeat (first | (with_reducible first | exact HB.out | apply below_alloc | apply pw_below_drewN | apply below_drew1 | refine below_set ?_ GE362.out) | exact HB.out)⟩
 ·
  replace c4:=Bool.eq_false_iff.mpr c4
  subst c4
  have H1:(some (([]:List Int),1)) = some (r1,r2):=by rw [if_neg (show ¬ (false = true) by decide)] at H;exact H
  clear H
  have H:=H1
  clear H1
  simp only [Option.some.injEq,Prod.mk.injEq] at H
  obtain ⟨rfl,rfl⟩:=H
  go_enter Try.func19,Try.ntmps19
  go_wp2_with (first | ((with_reducible refine gate_dst (N:=2) rfl ?_);refine box_event ?hg (N:=2) ?hd (cs:=#[.slice A0_0 l0_0.length c0_0,.int .u64 a0_1,.slice A0_2 l0_2.length c0_2]) (t:=26) ?hr ?_;(case hd => rfl);(case hg => rfl);(case hr => first | (go_simp;done) | (go_simp;rfl));intro gb362 hg w43 hbox hb;have n0_:=Aside0.mk (Kd.V_below (Kd.V_elderB (vV HO1.out) gb362 (Nat.le_of_eq hg.symm)) hb);have n1_:=Aside0.mk (below_step (vB HB.out) hb);have n2_:=Aside0.mk (hbox);have n3_:=Aside0.mk ((by rw [hg];exact (below_size (vB HB.out)):w.heap.size≤gb362));have n4_:=Aside0.mk ((by rw [hg];exact (below_size (vB HB.out)):w.heap.size≤gb362));clear HO1;clear HB;have HO1:=n0_;have HB:=n1_;have BK362:=n2_;have GW362:=n3_;have GE362:=n4_;clear n0_ n1_ n2_ n3_ n4_;clear hb hbox hg;have hcz44_0:w43.cell? ⟨gb362,0,none⟩ = some (.slice A0_0 l0_0.length c0_0):=(blk_cell BK362.out 0).trans rfl;have hcz44_1:w43.cell? ⟨gb362,1,none⟩ = some (.int .u64 a0_1):=(blk_cell BK362.out 1).trans rfl;have hcz44_2:w43.cell? ⟨gb362,2,none⟩ = some (.slice A0_2 l0_2.length c0_2):=(blk_cell BK362.out 2).trans rfl;have hfz44_0:=blk_frozen BK362.out 0;have hfz44_1:=blk_frozen BK362.out 1;have hfz44_2:=blk_frozen BK362.out 2) | ((with_reducible refine gate_dst (N:=9) rfl ?_);refine Kd.N_lit (Kd.slice 24 (Kd.int .u64)) _ 23 ?hg (N':=9) ?hd (xs:=([l1]:List (List Int))) (inner:=[.slice A1 l1.length c1]) (ok:=(fun k_ => (P1_ k_∨w.heap.size≤k_)∧k_≠gb362)) (okp:=(fun k_ => (P1_ k_∨w.heap.size≤k_)∧k_≠gb362)) ?hr ?hp (fun _ hk => hk) ((show ∀ k_,w43.heap.size≤k_→(fun k_ => (P1_ k_∨w.heap.size≤k_)∧k_≠gb362) k_ from fun k_ hk => ⟨(.inr (Nat.le_trans (below_size (vBg HB.out GE362.out)) hk)),Kd.freshB (g:=gb362) (o:=.cells #[.slice A0_0 l0_0.length c0_0,.int .u64 a0_1,.slice A0_2 l0_2.length c0_2] 26 (0,0)) (vK BK362.out) k_ hk⟩) _ (Nat.le_refl _)) (Below.refl _ _) (Nat.le_refl _) (by simp) ?_;(case hd => rfl);(case hg => rfl);(case hr => first | (go_simp;done) | (go_simp;rfl));(case hp => exact (Reps.one (show Kd.FK (Kd.slice 24 (Kd.int .u64)) _ _ l1 [.slice A1 l1.length c1] from (Kd.FK_slice_mk (Kd.V_reads' (Kd.V_mono (ok':=(fun k_ => (P1_ k_∨w.heap.size≤k_)∧k_≠gb362)) (HO1.out) (fun k_ hk => ⟨hk.1,hk.2⟩))).2.1 (Kd.V_F (by (with_reducible repeat (first | apply Kd.V_alloc | apply Kd.V_drewN | apply Kd.V_drew));exact (Kd.V_mono (ok':=(fun k_ => (P1_ k_∨w.heap.size≤k_)∧k_≠gb362)) (HO1.out) (fun k_ hk => ⟨hk.1,hk.2⟩)))))) (Reps.none _ _)));intro v364 w45 ho46 hb hg_ hnew_;clear hg_ hnew_;(first | rw [← Ny363.out] at ho46 | (simp only [Int.reduceToNat] at ho46;rw [← Ny363.out] at ho46));have n0_:=Aside0.mk (Kd.V_elder' (vV HO1.out) (Kd.N_base ho46) hb);have n1_:=Aside0.mk (Kd.N_lower ho46 (below_size (vBg HB.out GE362.out)));have n2_:=Aside0.mk (blk_below (g:=gb362) (o:=.cells #[.slice A0_0 l0_0.length c0_0,.int .u64 a0_1,.slice A0_2 l0_2.length c0_2] 26 (0,0)) (vK BK362.out) hb);have n3_:=Aside0.mk (below_step (vBg HB.out GE362.out) hb);clear HO1;clear BK362;clear HB;have HO1:=n0_;have HO365:=n1_;have BK362:=n2_;have HB:=n3_;clear n0_ n1_ n2_ n3_;clear hb ho46;obtain ⟨Ao47,co47,eo47⟩:=Kd.N_slice HO365.out;subst eo47) | ((with_reducible refine gate_callee (f:=34) rfl ?_);refine goesL_ (some 10) rfl rfl Try.func34 (by kernel_rfl) rfl #[.agg #[.slice A0_0 l0_0.length c0_0,.int .u64 a0_1,.slice A0_2 l0_2.length c0_2],.slice Ao47 y363.length co47] rfl vA ?_;(with_reducible refine (sconceref07_Members.calls k _ _ l0_0 a0_1 _ _ l0_2 _ _ y363 false _ ?side1 ?side2 ?side3 ?side4 ?side5 ?side6 A3.out).mono ?_);(case side1 => repeat (first | exact (Kd.C_below HR0_0.out HB.out) | (with_reducible refine Kd.C_alloc ?_ _) | (with_reducible refine Kd.C_drewN ?_ _) | (with_reducible refine Kd.C_drew ?_)));(case side2 => exact HC0_0.out);(case side3 => repeat (first | exact (Kd.C_below HR0_2.out HB.out) | (with_reducible refine Kd.C_alloc ?_ _) | (with_reducible refine Kd.C_drewN ?_ _) | (with_reducible refine Kd.C_drew ?_)));(case side4 => exact HC0_2.out);(case side5 => repeat (first | exact (Kd.N_reads' HO365.out).2.2 | (with_reducible refine Kd.C_alloc ?_ _) | (with_reducible refine Kd.C_drewN ?_ _) | (with_reducible refine Kd.C_drew ?_)));(case side6 => exact (Kd.N_reads' HO365.out).2.1);rintro e w48 ⟨rfl,hb⟩;refine ⟨_,rfl,?_⟩;have n0_:=Aside0.mk (Kd.V_below (vV HO1.out) hb);have n1_:=Aside0.mk (Kd.N_below (by (with_reducible repeat (first | apply Kd.N_alloc | apply Kd.N_drewN | apply Kd.N_drew));exact HO365.out) hb);have n2_:=Aside0.mk (blk_below (g:=gb362) (o:=.cells #[.slice A0_0 l0_0.length c0_0,.int .u64 a0_1,.slice A0_2 l0_2.length c0_2] 26 (0,0)) (vK BK362.out) hb);have n3_:=Aside0.mk (below_step (vBg HB.out GE362.out) hb);clear HO1;clear HO365;clear BK362;clear HB;have HO1:=n0_;have HO365:=n1_;have BK362:=n2_;have HB:=n3_;clear n0_ n1_ n2_ n3_;(try clear hb);(try clear hb2);(try clear hk);(try clear hi)))
  go_ret2
  exact ⟨_,by first | rfl | (simp [errW_none,errW_some] <;> rfl) | (simp [*,errW_none,errW_some] <;> rfl),by first | exact Kd.R_nil _ _ _ _ _ | exact Kd.N_nil _ _ _ _ _ | exact Kd.V_nil _ _ _ _ _ | exact Kd.Q_nil _ _ _ _ _ | exact Kd.S_nil _ _ _ _ _,by repeat (first | (with_reducible first | exact HB.out | apply below_alloc | apply pw_below_drewN | apply below_drew1 | refine below_set ?_ GE362.out) | exact HB.out)⟩
def sconcelaw07_as.f (k:Nat) (l0:List Int) (a1:Int) (l2:List Int) (a3:Int):Option (Bool):=if a1 = a3 then ((sconceref03_Same.f k l0 l2).bind fun t389 => (some t389)) else (some false)
theorem sconcelaw07_as.calls (k:Nat) (A0:Option Addr) (c0:Nat) (l0:List Int) (a1:Int) (A2:Option Addr) (c2:Nat) (l2:List Int) (a3:Int) (r:Bool) (w:World) (hr0:Kd.C (Kd.int .u64) w A0 l0.length l0) (hc0:l0.length≤c0) (hr2:Kd.C (Kd.int .u64) w A2 l2.length l2) (hc2:l2.length≤c2) (h:sconcelaw07_as.f k l0 a1 l2 a3 = some r) :
  Calls Try.prog 20 #[.slice A0 l0.length c0,.int .i64 a1,.slice A2 l2.length c2,.int .i64 a3] w fun e w' => e = .returned (.bool r)∧Drawn0 w w':=by
 have HR0:=Aside0.mk hr0
 have HC0:=Aside0.mk hc0
 clear hr0 hc0
 have HR2:=Aside0.mk hr2
 have HC2:=Aside0.mk hc2
 clear hr2 hc2
 have H:(if a1 = a3 then ((sconceref03_Same.f k l0 l2).bind fun t389 => (some t389)) else (some false)) = some r:=h
 clear h
 by_cases c5:a1 = a3
 ·
  rw [if_pos c5] at H
  have c5b0:(a1 == a3) = true:=beq_iff_eq.mpr c5
  have c5b1:(a1 != a3) = false:=bne_eq_false_iff_eq.mpr c5
  clear c5
  replace H:=Option.bind_eq_some_iff.mp H
  obtain ⟨t389,A60,H⟩:=H
  replace H:(some t389) = some r:=H
  have A6:=Aside0.mk A60
  clear A60
  obtain rfl:=Option.some.inj H
  go_enter Try.func20,Try.ntmps20
  go_wp2_with (first | (go_at_call 21;(with_reducible refine (sconceref03_Same.calls k _ _ l0 _ _ l2 t389 _ ?side1 ?side2 ?side3 ?side4 A6.out).mono ?_);(case side1 => repeat (first | exact HR0.out | (with_reducible refine Kd.C_alloc ?_ _) | (with_reducible refine Kd.C_drewN ?_ _) | (with_reducible refine Kd.C_drew ?_)));(case side2 => exact HC0.out);(case side3 => repeat (first | exact HR2.out | (with_reducible refine Kd.C_alloc ?_ _) | (with_reducible refine Kd.C_drewN ?_ _) | (with_reducible refine Kd.C_drew ?_)));(case side4 => exact HC2.out);rintro e w' ⟨rfl,⟨nd,rfl⟩⟩))
  go_ret
  exact ⟨by first | rfl | (simp;done) | (simp [*];done),by repeat (first | exact Drawn0.refl _ | apply Drawn0.step)⟩
 ·
  rw [if_neg c5] at H
  have c5b0:(a1 == a3) = false:=beq_eq_false_iff_ne.mpr c5
  have c5b1:(a1 != a3) = true:=bne_iff_ne.mpr c5
  obtain rfl:=Option.some.inj H
  go_enter Try.func20,Try.ntmps20
  go_wp2
  go_ret
  exact ⟨by first | rfl | (simp;done) | (simp [*];done),by repeat (first | exact Drawn0.refl _ | apply Drawn0.step)⟩
def sconcelaw07_sum.f (k:Nat) (l0_0:List Int) (a0_1:Int) (l0_2:List Int) (l1:List Int) (l2:List Int):Option (List Int):=(ring_Add.f k l0_0 a0_1 l0_2 l1 l2).bind fun bt391 => (some bt391.1)
theorem sconcelaw07_sum.calls (k:Nat) (A0_0:Option Addr) (c0_0:Nat) (l0_0:List Int) (a0_1:Int) (A0_2:Option Addr) (c0_2:Nat) (l0_2:List Int) (A1:Option Addr) (c1:Nat) (l1:List Int) (A2:Option Addr) (c2:Nat) (l2:List Int) (r:List Int) (w:World) (hr0_0:Kd.C (Kd.int .u64) w A0_0 l0_0.length l0_0) (hc0_0:l0_0.length≤c0_0) (hr0_2:Kd.C (Kd.int .u64) w A0_2 l0_2.length l0_2) (hc0_2:l0_2.length≤c0_2) (hr1:Kd.C (Kd.int .u64) w A1 l1.length l1) (hc1:l1.length≤c1) (hr2:Kd.C (Kd.int .u64) w A2 l2.length l2) (hc2:l2.length≤c2) (h:sconcelaw07_sum.f k l0_0 a0_1 l0_2 l1 l2 = some r) :
  Calls Try.prog 22 #[.agg #[.slice A0_0 l0_0.length c0_0,.int .u64 a0_1,.slice A0_2 l0_2.length c0_2],.slice A1 l1.length c1,.slice A2 l2.length c2] w fun e w' => ∃ v0_:Value,e = .returned (v0_)∧Kd.R (Kd.int .u64) 24 w' w.heap.size (fun _ => True) v0_ r∧Below w.heap.size w w':=by
 have hu26:=Try.underlying26
 have HR0_0:=Aside0.mk hr0_0
 have HC0_0:=Aside0.mk hc0_0
 clear hr0_0 hc0_0
 have HR0_2:=Aside0.mk hr0_2
 have HC0_2:=Aside0.mk hc0_2
 clear hr0_2 hc0_2
 have HR1:=Aside0.mk hr1
 have HC1:=Aside0.mk hc1
 clear hr1 hc1
 have HR2:=Aside0.mk hr2
 have HC2:=Aside0.mk hc2
 clear hr2 hc2
 have HB:=Aside0.mk (Below.refl w.heap.size w)
 have H:((ring_Add.f k l0_0 a0_1 l0_2 l1 l2).bind fun bt391 => (some bt391.1)) = some r:=h
 clear h
 replace H:=Option.bind_eq_some_iff.mp H
 obtain ⟨⟨t391,t394⟩,A40,H⟩:=H
 replace H:(some t391) = some r:=H
 have A4:=Aside0.mk A40
 clear A40
 obtain rfl:=Option.some.inj H
 go_enter Try.func22,Try.ntmps22
 go_wp2_with (first | ((with_reducible refine gate_dst (N:=3) rfl ?_);refine box_event ?hg (N:=3) ?hd (cs:=#[.slice A0_0 l0_0.length c0_0,.int .u64 a0_1,.slice A0_2 l0_2.length c0_2]) (t:=26) ?hr ?_;(case hd => rfl);(case hg => rfl);(case hr => first | (go_simp;done) | (go_simp;rfl));intro gb390 hg w5 hbox hb;have n0_:=Aside0.mk (below_step (vB HB.out) hb);have n1_:=Aside0.mk (hbox);have n2_:=Aside0.mk ((by rw [hg];exact (below_size (vB HB.out)):w.heap.size≤gb390));have n3_:=Aside0.mk ((by rw [hg];exact (below_size (vB HB.out)):w.heap.size≤gb390));clear HB;have HB:=n0_;have BK390:=n1_;have GW390:=n2_;have GE390:=n3_;clear n0_ n1_ n2_ n3_;clear hb hbox hg;have hcz6_0:w5.cell? ⟨gb390,0,none⟩ = some (.slice A0_0 l0_0.length c0_0):=(blk_cell BK390.out 0).trans rfl;have hcz6_1:w5.cell? ⟨gb390,1,none⟩ = some (.int .u64 a0_1):=(blk_cell BK390.out 1).trans rfl;have hcz6_2:w5.cell? ⟨gb390,2,none⟩ = some (.slice A0_2 l0_2.length c0_2):=(blk_cell BK390.out 2).trans rfl;have hfz6_0:=blk_frozen BK390.out 0;have hfz6_1:=blk_frozen BK390.out 1;have hfz6_2:=blk_frozen BK390.out 2) | ((with_reducible refine gate_callee (f:=23) rfl ?_);refine goesL_ (some 13) rfl rfl Try.func23 (by kernel_rfl) rfl #[.pointer none,.agg #[.slice A0_0 l0_0.length c0_0,.int .u64 a0_1,.slice A0_2 l0_2.length c0_2],.slice A1 l1.length c1,.slice A2 l2.length c2] rfl vA ?_;(with_reducible refine (ring_Add.calls k  _ _ l0_0 a0_1 _ _ l0_2 _ _ l1 _ _ l2 t391 t394 _ ?side1 ?side2 ?side3 ?side4 ?side5 ?side6 ?side7 ?side8 A4.out).mono ?_);(case side1 => repeat (first | exact (Kd.C_below HR0_0.out HB.out) | (with_reducible refine Kd.C_alloc ?_ _) | (with_reducible refine Kd.C_drewN ?_ _) | (with_reducible refine Kd.C_drew ?_)));(case side2 => exact HC0_0.out);(case side3 => repeat (first | exact (Kd.C_below HR0_2.out HB.out) | (with_reducible refine Kd.C_alloc ?_ _) | (with_reducible refine Kd.C_drewN ?_ _) | (with_reducible refine Kd.C_drew ?_)));(case side4 => exact HC0_2.out);(case side5 => repeat (first | exact (Kd.C_below HR1.out HB.out) | (with_reducible refine Kd.C_alloc ?_ _) | (with_reducible refine Kd.C_drewN ?_ _) | (with_reducible refine Kd.C_drew ?_)));(case side6 => exact HC1.out);(case side7 => repeat (first | exact (Kd.C_below HR2.out HB.out) | (with_reducible refine Kd.C_alloc ?_ _) | (with_reducible refine Kd.C_drewN ?_ _) | (with_reducible refine Kd.C_drew ?_)));(case side8 => exact HC2.out);rintro e w7 ⟨v392,rfl,ho0,hb⟩;refine ⟨_,rfl,?_⟩;have n0_:=Aside0.mk (Kd.R_lower ho0 (below_size (vBg HB.out GE390.out)));have n1_:=Aside0.mk (blk_below (g:=gb390) (o:=.cells #[.slice A0_0 l0_0.length c0_0,.int .u64 a0_1,.slice A0_2 l0_2.length c0_2] 26 (0,0)) (vK BK390.out) hb);have n2_:=Aside0.mk (below_step (vBg HB.out GE390.out) hb);clear BK390;clear HB;have HO393:=n0_;have BK390:=n1_;have HB:=n2_;clear n0_ n1_ n2_;(try clear hb);(try clear hb2);(try clear hk);(try clear hi);(try clear ho0)))
 go_ret
 exact ⟨_,by first | rfl | (simp [errW_none,errW_some] <;> rfl) | (simp [*,errW_none,errW_some] <;> rfl),by (with_reducible repeat (first | apply Kd.R_alloc | apply Kd.R_drewN | apply Kd.R_drew));exact HO393.out,by repeat (first | (with_reducible first | exact HB.out | apply below_alloc | apply pw_below_drewN | apply below_drew1 | refine below_set ?_ GE390.out) | exact HB.out)⟩
end Go.Proofs.Ytonpekldcnankaa.X
