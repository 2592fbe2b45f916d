/- Texts of the walk and of the plain laws, laid together by a program: X37, PsRingMuls, Sp7b, PureRingMuls. -/
import Derived.Test.YtonpekldcnankaaZF0
import Derived.Test.YtonpekldcnankaaZF1
import Derived.Test.YtonpekldcnankaaZF2
import Derived.Test.YtonpekldcnankaaZF5
import Derived.Test.YtonpekldcnankaaZF6
import Derived.Test.YtonpekldcnankaaZF4
import Derived.Test.YtonpekldcnankaaZF9
import Derived.Test.YtonpekldcnankaaZF15
import Derived.Test.YtonpekldcnankaaZF16
import Derived.Test.YtonpekldcnankaaZF17
import Derived.Test.YtonpekldcnankaaZF24
import Derived.Test.YtonpekldcnankaaZF25
import Derived.Test.YtonpekldcnankaaZF32
import Derived.Test.YtonpekldcnankaaZF33
import Derived.Test.YtonpekldcnankaaZF34
import Derived.Test.YtonpekldcnankaaZF37
import Derived.Test.YtonpekldcnankaaZF39
import Derived.Test.YtonpekldcnankaaZF40
import Derived.Test.YtonpekldcnankaaZF41
import Derived.Test.YtonpekldcnankaaZF38
section
namespace Go.Proofs.Ytonpekldcnankaa.X
open Go.RowKit Go.Proofs.YtonpekldcnankaaW.PrintWords Go.Proofs.YtonpekldcnankaaW.PrintLast Go.Proofs.YtonpekldcnankaaW.PrintMore
attribute [local go_sem] max2_int min2_int max_two min_two max_three min_three max_four min_four
set_option linter.unusedVariables false
set_option linter.unusedSimpArgs false
def sconcelaw07_RingMuls.f (k:Nat) (l0_0:List Int) (a0_1:Int) (l0_2:List Int) (l1:List Int) (l2:List Int):Option (Bool):=(sconcelaw07_awake.f k).bind fun t615 => (if t615 = true then ((sconcelaw07_Few.f k l0_0 a0_1 l0_2 (([l1,l2]:List (List Int)))).bind fun t619 => (if t619 = true then ((ring_Mul.f k l0_0 a0_1 l0_2 l1 l2).bind fun bt620 => ((sconceref07_Mul.f k l0_0 a0_1 l0_2 l1 l2).bind fun bt624 => ((sconcelaw07_as.f k bt620.1 bt620.2 bt624.1 bt624.2).bind fun t628 => (some t628)))) else (some true))) else (some false))
set_option maxHeartbeats 8000000 in
set_option maxRecDepth 100000 in
theorem sconcelaw07_RingMuls.calls (k:Nat) (A0_0:Option Addr) (c0_0:Nat) (l0_0:List Int) (a0_1:Int) (A0_2:Option Addr) (c0_2:Nat) (l0_2:List Int) (P1_:Nat→Prop) (A1:Option Addr) (c1:Nat) (l1:List Int) (P2_:Nat→Prop) (A2:Option Addr) (c2:Nat) (l2:List Int) (r:Bool) (w:World) (hr0_0:Kd.C (Kd.int .u64) w A0_0 l0_0.length l0_0) (hc0_0:l0_0.length≤c0_0) (hr0_2:Kd.C (Kd.int .u64) w A0_2 l0_2.length l0_2) (hc0_2:l0_2.length≤c0_2) (hs1:Kd.V (Kd.int .u64) 24 w w.heap.size (fun k_ => P1_ k_) (.slice A1 l1.length c1) l1) (hs2:Kd.V (Kd.int .u64) 24 w w.heap.size (fun k_ => P2_ k_) (.slice A2 l2.length c2) l2) (h:sconcelaw07_RingMuls.f k l0_0 a0_1 l0_2 l1 l2 = some r) :
  Calls Try.prog 5 #[.agg #[.slice A0_0 l0_0.length c0_0,.int .u64 a0_1,.slice A0_2 l0_2.length c0_2],.slice A1 l1.length c1,.slice A2 l2.length c2] w fun e w' => e = .returned (.bool r)∧Below w.heap.size w w':=by
 have hu26:=Try.underlying26
 have HR0_0:=Aside0.mk hr0_0
 have HC0_0:=Aside0.mk hc0_0
 clear hr0_0 hc0_0
 have HR0_2:=Aside0.mk hr0_2
 have HC0_2:=Aside0.mk hc0_2
 clear hr0_2 hc0_2
 have HO1:=Aside0.mk (show Kd.V (Kd.int .u64) 24 w w.heap.size (fun k_ => ((P1_ k_∨P2_ k_)∨w.heap.size≤k_)) (.slice A1 l1.length c1) l1 from Kd.V_mono hs1 (fun k_ hk => .inl (.inl hk)))
 have HO2:=Aside0.mk (show Kd.V (Kd.int .u64) 24 w w.heap.size (fun k_ => ((P1_ k_∨P2_ k_)∨w.heap.size≤k_)) (.slice A2 l2.length c2) l2 from Kd.V_mono hs2 (fun k_ hk => .inl (.inr hk)))
 have HB:=Aside0.mk (Below.refl w.heap.size w)
 have H:((sconcelaw07_awake.f k).bind fun t615 => (if t615 = true then ((sconcelaw07_Few.f k l0_0 a0_1 l0_2 (([l1,l2]:List (List Int)))).bind fun t619 => (if t619 = true then ((ring_Mul.f k l0_0 a0_1 l0_2 l1 l2).bind fun bt620 => ((sconceref07_Mul.f k l0_0 a0_1 l0_2 l1 l2).bind fun bt624 => ((sconcelaw07_as.f k bt620.1 bt620.2 bt624.1 bt624.2).bind fun t628 => (some t628)))) else (some true))) else (some false))) = some r:=h
 clear h
 replace H:=Option.bind_eq_some_iff.mp H
 obtain ⟨t615,A40,H⟩:=H
 replace H:(if t615 = true then ((sconcelaw07_Few.f k l0_0 a0_1 l0_2 (([l1,l2]:List (List Int)))).bind fun t619 => (if t619 = true then ((ring_Mul.f k l0_0 a0_1 l0_2 l1 l2).bind fun bt620 => ((sconceref07_Mul.f k l0_0 a0_1 l0_2 l1 l2).bind fun bt624 => ((sconcelaw07_as.f k bt620.1 bt620.2 bt624.1 bt624.2).bind fun t628 => (some t628)))) else (some true))) else (some false)) = some r:=H
 have A4:=Aside0.mk A40
 clear A40
 by_cases c5:t615 = true
 ·
  subst c5
  have H1:((sconcelaw07_Few.f k l0_0 a0_1 l0_2 (([l1,l2]:List (List Int)))).bind fun t619 => (if t619 = true then ((ring_Mul.f k l0_0 a0_1 l0_2 l1 l2).bind fun bt620 => ((sconceref07_Mul.f k l0_0 a0_1 l0_2 l1 l2).bind fun bt624 => ((sconcelaw07_as.f k bt620.1 bt620.2 bt624.1 bt624.2).bind fun t628 => (some t628)))) else (some true))) = some r:=by rw [if_pos rfl] at H;exact H
  clear H
  have H:=H1
  clear H1
  obtain ⟨y616,hy616⟩:∃ y_:List (List Int),y_ = (([l1,l2]:List (List Int))):=⟨_,rfl⟩
  replace H:((sconcelaw07_Few.f k l0_0 a0_1 l0_2 y616).bind fun t619 => (if t619 = true then ((ring_Mul.f k l0_0 a0_1 l0_2 l1 l2).bind fun bt620 => ((sconceref07_Mul.f k l0_0 a0_1 l0_2 l1 l2).bind fun bt624 => ((sconcelaw07_as.f k bt620.1 bt620.2 bt624.1 bt624.2).bind fun t628 => (some t628)))) else (some true))) = some r:=by first | (rw [hy616];with_reducible exact H) | (have H2_:=(Option.bind_some _ _).symm.trans H;rw [hy616];with_reducible exact H2_) | (have H2_:=(Option.bind_some _ _).symm.trans H;with_reducible exact H2_) | with_reducible exact H | (rw [hy616];exact H) | exact H
  have Ny616:=Aside0.mk hy616
  clear hy616
  replace H:=Option.bind_eq_some_iff.mp H
  obtain ⟨t619,A60,H⟩:=H
  replace H:(if t619 = true then ((ring_Mul.f k l0_0 a0_1 l0_2 l1 l2).bind fun bt620 => ((sconceref07_Mul.f k l0_0 a0_1 l0_2 l1 l2).bind fun bt624 => ((sconcelaw07_as.f k bt620.1 bt620.2 bt624.1 bt624.2).bind fun t628 => (some t628)))) else (some true)) = some r:=H
  have A6:=Aside0.mk A60
  clear A60
  by_cases c7:t619 = true
  ·
   subst c7
   have H1:((ring_Mul.f k l0_0 a0_1 l0_2 l1 l2).bind fun bt620 => ((sconceref07_Mul.f k l0_0 a0_1 l0_2 l1 l2).bind fun bt624 => ((sconcelaw07_as.f k bt620.1 bt620.2 bt624.1 bt624.2).bind fun t628 => (some t628)))) = some r:=by rw [if_pos rfl] at H;exact H
   clear H
   have H:=H1
   clear H1
   replace H:=Option.bind_eq_some_iff.mp H
   obtain ⟨⟨t620,t623⟩,A80,H⟩:=H
   replace H:((sconceref07_Mul.f k l0_0 a0_1 l0_2 l1 l2).bind fun bt624 => ((sconcelaw07_as.f k t620 t623 bt624.1 bt624.2).bind fun t628 => (some t628))) = some r:=H
   have A8:=Aside0.mk A80
   clear A80
   replace H:=Option.bind_eq_some_iff.mp H
   obtain ⟨⟨t624,t627⟩,A90,H⟩:=H
   replace H:((sconcelaw07_as.f k t620 t623 t624 t627).bind fun t628 => (some t628)) = some r:=H
   have A9:=Aside0.mk A90
   clear A90
   replace H:=Option.bind_eq_some_iff.mp H
   obtain ⟨t628,A100,H⟩:=H
   replace H:(some t628) = some r:=H
   have A10:=Aside0.mk A100
   clear A100
   obtain rfl:=Option.some.inj H
   go_enter Try.func5,Try.ntmps5
   go_wp2_with (first | ((with_reducible refine gate_dst (N:=3) rfl ?_);refine box_event ?hg (N:=3) ?hd (cs:=#[.slice A0_0 l0_0.length c0_0,.int .u64 a0_1,.slice A0_2 l0_2.length c0_2]) (t:=26) ?hr ?_;(case hd => rfl);(case hg => rfl);(case hr => first | (go_simp;done) | (go_simp;rfl));intro gb614 hg w11 hbox hb;have n0_:=Aside0.mk (Kd.V_below (Kd.V_elderB (vV HO1.out) gb614 (Nat.le_of_eq hg.symm)) hb);have n1_:=Aside0.mk (Kd.V_below (Kd.V_elderB (vV HO2.out) gb614 (Nat.le_of_eq hg.symm)) hb);have n2_:=Aside0.mk (below_step (vB HB.out) hb);have n3_:=Aside0.mk (hbox);have n4_:=Aside0.mk ((by rw [hg];exact (below_size (vB HB.out)):w.heap.size≤gb614));have n5_:=Aside0.mk ((by rw [hg];exact (below_size (vB HB.out)):w.heap.size≤gb614));clear HO1;clear HO2;clear HB;have HO1:=n0_;have HO2:=n1_;have HB:=n2_;have BK614:=n3_;have GW614:=n4_;have GE614:=n5_;clear n0_ n1_ n2_ n3_ n4_ n5_;clear hb hbox hg) | ((with_reducible refine gate_callee (f:=16) rfl ?_);refine goesL_ (some 11) rfl rfl Try.func16 (by kernel_rfl) rfl #[] rfl vA ?_;(with_reducible refine (sconcelaw07_awake.calls k  true _ A4.out).mono ?_);rintro e w12 ⟨rfl,hb⟩;refine ⟨_,rfl,?_⟩;have n0_:=Aside0.mk (Kd.V_below (vV HO1.out) hb);have n1_:=Aside0.mk (Kd.V_below (vV HO2.out) hb);have n2_:=Aside0.mk (blk_below (g:=gb614) (o:=.cells #[.slice A0_0 l0_0.length c0_0,.int .u64 a0_1,.slice A0_2 l0_2.length c0_2] 26 (0,0)) (vK BK614.out) hb);have n3_:=Aside0.mk (below_step (vBg HB.out GE614.out) hb);clear HO1;clear HO2;clear BK614;clear HB;have HO1:=n0_;have HO2:=n1_;have BK614:=n2_;have HB:=n3_;clear n0_ n1_ n2_ n3_;(try clear hb);(try clear hb2);(try clear hk);(try clear hi);have hcz13_0:w12.cell? ⟨gb614,0,none⟩ = some (.slice A0_0 l0_0.length c0_0):=(blk_cell BK614.out 0).trans rfl;have hcz13_1:w12.cell? ⟨gb614,1,none⟩ = some (.int .u64 a0_1):=(blk_cell BK614.out 1).trans rfl;have hcz13_2:w12.cell? ⟨gb614,2,none⟩ = some (.slice A0_2 l0_2.length c0_2):=(blk_cell BK614.out 2).trans rfl;have hfz13_0:=blk_frozen BK614.out 0;have hfz13_1:=blk_frozen BK614.out 1;have hfz13_2:=blk_frozen BK614.out 2) | ((with_reducible refine gate_dst (N:=16) rfl ?_);refine Kd.N_lit (Kd.slice 24 (Kd.int .u64)) _ 23 ?hg (N':=16) ?hd (xs:=([l1,l2]:List (List Int))) (inner:=[.slice A1 l1.length c1,.slice A2 l2.length c2]) (ok:=(fun k_ => ((P1_ k_∨P2_ k_)∨w.heap.size≤k_)∧k_≠gb614)) (okp:=(fun k_ => ((P1_ k_∨P2_ k_)∨w.heap.size≤k_)∧k_≠gb614)) ?hr ?hp (fun _ hk => hk) ((show ∀ k_,w12.heap.size≤k_→(fun k_ => ((P1_ k_∨P2_ k_)∨w.heap.size≤k_)∧k_≠gb614) k_ from fun k_ hk => ⟨(.inr (Nat.le_trans (below_size (vBg HB.out GE614.out)) hk)),Kd.freshB (g:=gb614) (o:=.cells #[.slice A0_0 l0_0.length c0_0,.int .u64 a0_1,.slice A0_2 l0_2.length c0_2] 26 (0,0)) (vK BK614.out) k_ hk⟩) _ (Nat.le_refl _)) (Below.refl _ _) (Nat.le_refl _) (by simp) ?_;(case hd => rfl);(case hg => rfl);(case hr => first | (go_simp;done) | (go_simp;rfl));(case hp => exact (Reps.one (show Kd.FK (Kd.slice 24 (Kd.int .u64)) _ _ l1 [.slice A1 l1.length c1] from (Kd.FK_slice_mk (Kd.V_reads' (Kd.V_mono (ok':=(fun k_ => ((P1_ k_∨P2_ k_)∨w.heap.size≤k_)∧k_≠gb614)) (HO1.out) (fun k_ hk => ⟨hk.1,hk.2⟩))).2.1 (Kd.V_F (by (with_reducible repeat (first | apply Kd.V_alloc | apply Kd.V_drewN | apply Kd.V_drew));exact (Kd.V_mono (ok':=(fun k_ => ((P1_ k_∨P2_ k_)∨w.heap.size≤k_)∧k_≠gb614)) (HO1.out) (fun k_ hk => ⟨hk.1,hk.2⟩)))))) (Reps.one (show Kd.FK (Kd.slice 24 (Kd.int .u64)) _ _ l2 [.slice A2 l2.length c2] from (Kd.FK_slice_mk (Kd.V_reads' (Kd.V_mono (ok':=(fun k_ => ((P1_ k_∨P2_ k_)∨w.heap.size≤k_)∧k_≠gb614)) (HO2.out) (fun k_ hk => ⟨hk.1,hk.2⟩))).2.1 (Kd.V_F (by (with_reducible repeat (first | apply Kd.V_alloc | apply Kd.V_drewN | apply Kd.V_drew));exact (Kd.V_mono (ok':=(fun k_ => ((P1_ k_∨P2_ k_)∨w.heap.size≤k_)∧k_≠gb614)) (HO2.out) (fun k_ hk => ⟨hk.1,hk.2⟩)))))) (Reps.none _ _))));intro v617 w14 ho15 hb hg_ hnew_;clear hg_ hnew_;(first | rw [← Ny616.out] at ho15 | (simp only [Int.reduceToNat] at ho15;rw [← Ny616.out] at ho15));have n0_:=Aside0.mk (Kd.V_elder' (vV HO1.out) (Kd.N_base ho15) hb);have n1_:=Aside0.mk (Kd.V_elder' (vV HO2.out) (Kd.N_base ho15) hb);have n2_:=Aside0.mk (Kd.N_lower ho15 (below_size (vBg HB.out GE614.out)));have n3_:=Aside0.mk (blk_below (g:=gb614) (o:=.cells #[.slice A0_0 l0_0.length c0_0,.int .u64 a0_1,.slice A0_2 l0_2.length c0_2] 26 (0,0)) (vK BK614.out) hb);have n4_:=Aside0.mk (below_step (vBg HB.out GE614.out) hb);clear HO1;clear HO2;clear BK614;clear HB;have HO1:=n0_;have HO2:=n1_;have HO618:=n2_;have BK614:=n3_;have HB:=n4_;clear n0_ n1_ n2_ n3_ n4_;clear hb ho15;obtain ⟨Ao16,co16,eo16⟩:=Kd.N_slice HO618.out;subst eo16) | ((with_reducible refine gate_callee (f:=17) rfl ?_);refine goesL_ (some 17) rfl rfl Try.func17 (by kernel_rfl) rfl #[.agg #[.slice A0_0 l0_0.length c0_0,.int .u64 a0_1,.slice A0_2 l0_2.length c0_2],.slice Ao16 y616.length co16] rfl vA ?_;(with_reducible refine (sconcelaw07_Few.calls k (fun k_ => k_ < w.heap.size) _ _ l0_0 a0_1 (fun k_ => k_ < w.heap.size) _ _ l0_2 _ _ y616 true _ ?side1 ?side2 ?side3 ?side4 A6.out).mono ?_);(case side1 => exact Kd.V_mk HC0_0.out (Kd.F_below (Kd.C_F (Kd.heap_int .u64) HR0_0.out) (vBg HB.out GE614.out)));(case side2 => exact Kd.V_mk HC0_2.out (Kd.F_below (Kd.C_F (Kd.heap_int .u64) HR0_2.out) (vBg HB.out GE614.out)));(case side3 => repeat (first | exact (Kd.N_reads' HO618.out).2.2 | (with_reducible refine Kd.C_alloc ?_ _) | (with_reducible refine Kd.C_drewN ?_ _) | (with_reducible refine Kd.C_drew ?_)));(case side4 => exact (Kd.N_reads' HO618.out).2.1);rintro e w17 ⟨rfl,hb⟩;refine ⟨_,rfl,?_⟩;have n0_:=Aside0.mk (Kd.V_below (vV HO1.out) hb);have n1_:=Aside0.mk (Kd.V_below (vV HO2.out) hb);have n2_:=Aside0.mk (Kd.N_below (by (with_reducible repeat (first | apply Kd.N_alloc | apply Kd.N_drewN | apply Kd.N_drew));exact HO618.out) hb);have n3_:=Aside0.mk (blk_below (g:=gb614) (o:=.cells #[.slice A0_0 l0_0.length c0_0,.int .u64 a0_1,.slice A0_2 l0_2.length c0_2] 26 (0,0)) (vK BK614.out) hb);have n4_:=Aside0.mk (below_step (vBg HB.out GE614.out) hb);clear HO1;clear HO2;clear HO618;clear BK614;clear HB;have HO1:=n0_;have HO2:=n1_;have HO618:=n2_;have BK614:=n3_;have HB:=n4_;clear n0_ n1_ n2_ n3_ n4_;(try clear hb);(try clear hb2);(try clear hk);(try clear hi);have hcz18_0:w17.cell? ⟨gb614,0,none⟩ = some (.slice A0_0 l0_0.length c0_0):=(blk_cell BK614.out 0).trans rfl;have hcz18_1:w17.cell? ⟨gb614,1,none⟩ = some (.int .u64 a0_1):=(blk_cell BK614.out 1).trans rfl;have hcz18_2:w17.cell? ⟨gb614,2,none⟩ = some (.slice A0_2 l0_2.length c0_2):=(blk_cell BK614.out 2).trans rfl;have hfz18_0:=blk_frozen BK614.out 0;have hfz18_1:=blk_frozen BK614.out 1;have hfz18_2:=blk_frozen BK614.out 2) | ((with_reducible refine gate_callee (f:=29) rfl ?_);refine goesL_ (some 23) rfl rfl Try.func29 (by kernel_rfl) rfl #[.pointer none,.agg #[.slice A0_0 l0_0.length c0_0,.int .u64 a0_1,.slice A0_2 l0_2.length c0_2],.slice A1 l1.length c1,.slice A2 l2.length c2] rfl vA ?_;(with_reducible refine (ring_Mul.calls k  _ _ l0_0 a0_1 _ _ l0_2 _ _ l1 _ _ l2 t620 t623 _ ?side1 ?side2 ?side3 ?side4 ?side5 ?side6 ?side7 ?side8 A8.out).mono ?_);(case side1 => repeat (first | exact (Kd.C_below HR0_0.out HB.out) | (with_reducible refine Kd.C_alloc ?_ _) | (with_reducible refine Kd.C_drewN ?_ _) | (with_reducible refine Kd.C_drew ?_)));(case side2 => exact HC0_0.out);(case side3 => repeat (first | exact (Kd.C_below HR0_2.out HB.out) | (with_reducible refine Kd.C_alloc ?_ _) | (with_reducible refine Kd.C_drewN ?_ _) | (with_reducible refine Kd.C_drew ?_)));(case side4 => exact HC0_2.out);(case side5 => repeat (first | exact (Kd.V_reads' HO1.out).2.2 | (with_reducible refine Kd.C_alloc ?_ _) | (with_reducible refine Kd.C_drewN ?_ _) | (with_reducible refine Kd.C_drew ?_)));(case side6 => exact (Kd.V_reads' HO1.out).2.1);(case side7 => repeat (first | exact (Kd.V_reads' HO2.out).2.2 | (with_reducible refine Kd.C_alloc ?_ _) | (with_reducible refine Kd.C_drewN ?_ _) | (with_reducible refine Kd.C_drew ?_)));(case side8 => exact (Kd.V_reads' HO2.out).2.1);rintro e w19 ⟨v621,rfl,ho0,hb⟩;refine ⟨_,rfl,?_⟩;have n0_:=Aside0.mk (Kd.V_elder' (vV HO1.out) (Kd.R_base ho0) hb);have n1_:=Aside0.mk (Kd.V_elder' (vV HO2.out) (Kd.R_base ho0) hb);have n2_:=Aside0.mk (Kd.N_elder' (by (with_reducible repeat (first | apply Kd.N_alloc | apply Kd.N_drewN | apply Kd.N_drew));exact HO618.out) (Kd.R_base ho0) hb);have n3_:=Aside0.mk (Kd.R_lower (Kd.R_newM (M:=fun k_ => (w.heap.size≤k_)) ho0 (below_size (vBg HB.out GE614.out)) (fun k_ h_ => h_)) (below_size (vBg HB.out GE614.out)));have n4_:=Aside0.mk (blk_below (g:=gb614) (o:=.cells #[.slice A0_0 l0_0.length c0_0,.int .u64 a0_1,.slice A0_2 l0_2.length c0_2] 26 (0,0)) (vK BK614.out) hb);have n5_:=Aside0.mk (below_step (vBg HB.out GE614.out) hb);clear HO1;clear HO2;clear HO618;clear BK614;clear HB;have HO1:=n0_;have HO2:=n1_;have HO618:=n2_;have HO622:=n3_;have BK614:=n4_;have HB:=n5_;clear n0_ n1_ n2_ n3_ n4_ n5_;(try clear hb);(try clear hb2);(try clear hk);(try clear hi);(try clear ho0);have hcz20_0:w19.cell? ⟨gb614,0,none⟩ = some (.slice A0_0 l0_0.length c0_0):=(blk_cell BK614.out 0).trans rfl;have hcz20_1:w19.cell? ⟨gb614,1,none⟩ = some (.int .u64 a0_1):=(blk_cell BK614.out 1).trans rfl;have hcz20_2:w19.cell? ⟨gb614,2,none⟩ = some (.slice A0_2 l0_2.length c0_2):=(blk_cell BK614.out 2).trans rfl;have hfz20_0:=blk_frozen BK614.out 0;have hfz20_1:=blk_frozen BK614.out 1;have hfz20_2:=blk_frozen BK614.out 2) | ((with_reducible refine gate_callee (f:=30) rfl ?_);refine goesL_ (some 30) rfl rfl Try.func30 (by kernel_rfl) rfl #[.agg #[.slice A0_0 l0_0.length c0_0,.int .u64 a0_1,.slice A0_2 l0_2.length c0_2],.slice A1 l1.length c1,.slice A2 l2.length c2] rfl vA ?_;(with_reducible refine (sconceref07_Mul.calls k _ _ l0_0 a0_1 _ _ l0_2 (fun k_ => (((((P1_ k_∨P2_ k_)∨w.heap.size≤k_)∧k_≠gb614)∧some k_≠(.slice Ao16 y616.length co16:Value).ownBlock)∧some k_≠(v621:Value).ownBlock)) _ _ l1 (fun k_ => (((((P1_ k_∨P2_ k_)∨w.heap.size≤k_)∧k_≠gb614)∧some k_≠(.slice Ao16 y616.length co16:Value).ownBlock)∧some k_≠(v621:Value).ownBlock)) _ _ l2 t624 t627 _ ?side1 ?side2 ?side3 ?side4 ?side5 ?side6 A9.out).mono ?_);(case side1 => repeat (first | exact (Kd.C_below HR0_0.out HB.out) | (with_reducible refine Kd.C_alloc ?_ _) | (with_reducible refine Kd.C_drewN ?_ _) | (with_reducible refine Kd.C_drew ?_)));(case side2 => exact HC0_0.out);(case side3 => repeat (first | exact (Kd.C_below HR0_2.out HB.out) | (with_reducible refine Kd.C_alloc ?_ _) | (with_reducible refine Kd.C_drewN ?_ _) | (with_reducible refine Kd.C_drew ?_)));(case side4 => exact HC0_2.out);(case side5 => exact HO1.out);(case side6 => exact HO2.out);rintro e w21 ⟨v625,rfl,ho0,hb⟩;refine ⟨_,rfl,?_⟩;have n0_:=Aside0.mk (Kd.V_elder' (vV HO1.out) (Kd.R_base ho0) hb);have n1_:=Aside0.mk (Kd.V_elder' (vV HO2.out) (Kd.R_base ho0) hb);have n2_:=Aside0.mk (Kd.N_elder' (by (with_reducible repeat (first | apply Kd.N_alloc | apply Kd.N_drewN | apply Kd.N_drew));exact HO618.out) (Kd.R_base ho0) hb);have n3_:=Aside0.mk (Kd.R_elder' (vR HO622.out) (Kd.R_base ho0) hb);have n4_:=Aside0.mk (Kd.R_lower (Kd.R_new' (Kd.R_newM (M:=fun k_ => (w.heap.size≤k_)) (Kd.R_mono (ok':=fun k_ => True) ho0 (fun _ hk_ => trivial)) (below_size (vBg HB.out GE614.out)) (fun k_ h_ => h_)) (Kd.R_lt (vR HO622.out))) (below_size (vBg HB.out GE614.out)));have n5_:=Aside0.mk (blk_below (g:=gb614) (o:=.cells #[.slice A0_0 l0_0.length c0_0,.int .u64 a0_1,.slice A0_2 l0_2.length c0_2] 26 (0,0)) (vK BK614.out) hb);have n6_:=Aside0.mk (below_step (vBg HB.out GE614.out) hb);clear HO1;clear HO2;clear HO618;clear HO622;clear BK614;clear HB;have HO1:=n0_;have HO2:=n1_;have HO618:=n2_;have HO622:=n3_;have HO626:=n4_;have BK614:=n5_;have HB:=n6_;clear n0_ n1_ n2_ n3_ n4_ n5_ n6_;(try clear hb);(try clear hb2);(try clear hk);(try clear hi);(try clear ho0);obtain ⟨Ao22,co22,eo22⟩:=Kd.R_slice HO622.out;subst eo22;obtain ⟨Ao23,co23,eo23⟩:=Kd.R_slice HO626.out;subst eo23) | ((with_reducible refine gate_callee (f:=20) rfl ?_);refine goesL_ (some 37) rfl rfl Try.func20 (by kernel_rfl) rfl #[.slice Ao22 t620.length co22,.int .i64 t623,.slice Ao23 t624.length co23,.int .i64 t627] rfl vA ?_;(with_reducible refine (sconcelaw07_as.calls k _ _ t620 t623 _ _ t624 t627 t628 _ ?side1 ?side2 ?side3 ?side4 A10.out).mono ?_);(case side1 => repeat (first | exact (Kd.R_reads' HO622.out).2.2 | (with_reducible refine Kd.C_alloc ?_ _) | (with_reducible refine Kd.C_drewN ?_ _) | (with_reducible refine Kd.C_drew ?_)));(case side2 => exact (Kd.R_reads' HO622.out).2.1);(case side3 => repeat (first | exact (Kd.R_reads' HO626.out).2.2 | (with_reducible refine Kd.C_alloc ?_ _) | (with_reducible refine Kd.C_drewN ?_ _) | (with_reducible refine Kd.C_drew ?_)));(case side4 => exact (Kd.R_reads' HO626.out).2.1);rintro e w' ⟨rfl,⟨nd,rfl⟩⟩;refine ⟨_,rfl,?_⟩))
   go_ret
   exact ⟨by first | rfl | (simp [errW_none,errW_some] <;> rfl) | (simp [*,errW_none,errW_some] <;> rfl),by repeat (first | (with_reducible first | exact HB.out | apply below_alloc | apply pw_below_drewN | apply below_drew1 | refine below_set ?_ GE614.out) | exact HB.out)⟩
  ·
   replace c7:=Bool.eq_false_iff.mpr c7
   subst c7
   have H1:(some true) = some r:=by rw [if_neg (show ¬ (false = true) by decide)] at H;exact H
   clear H
   have H:=H1
   clear H1
   obtain rfl:=Option.some.inj H
   go_enter Try.func5,Try.ntmps5
   go_wp2_with (first | ((with_reducible refine gate_dst (N:=3) rfl ?_);refine box_event ?hg (N:=3) ?hd (cs:=#[.slice A0_0 l0_0.length c0_0,.int .u64 a0_1,.slice A0_2 l0_2.length c0_2]) (t:=26) ?hr ?_;(case hd => rfl);(case hg => rfl);(case hr => first | (go_simp;done) | (go_simp;rfl));intro gb614 hg w24 hbox hb;have n0_:=Aside0.mk (Kd.V_below (Kd.V_elderB (vV HO1.out) gb614 (Nat.le_of_eq hg.symm)) hb);have n1_:=Aside0.mk (Kd.V_below (Kd.V_elderB (vV HO2.out) gb614 (Nat.le_of_eq hg.symm)) hb);have n2_:=Aside0.mk (below_step (vB HB.out) hb);have n3_:=Aside0.mk (hbox);have n4_:=Aside0.mk ((by rw [hg];exact (below_size (vB HB.out)):w.heap.size≤gb614));have n5_:=Aside0.mk ((by rw [hg];exact (below_size (vB HB.out)):w.heap.size≤gb614));clear HO1;clear HO2;clear HB;have HO1:=n0_;have HO2:=n1_;have HB:=n2_;have BK614:=n3_;have GW614:=n4_;have GE614:=n5_;clear n0_ n1_ n2_ n3_ n4_ n5_;clear hb hbox hg) | ((with_reducible refine gate_callee (f:=16) rfl ?_);refine goesL_ (some 11) rfl rfl Try.func16 (by kernel_rfl) rfl #[] rfl vA ?_;(with_reducible refine (sconcelaw07_awake.calls k  true _ A4.out).mono ?_);rintro e w25 ⟨rfl,hb⟩;refine ⟨_,rfl,?_⟩;have n0_:=Aside0.mk (Kd.V_below (vV HO1.out) hb);have n1_:=Aside0.mk (Kd.V_below (vV HO2.out) hb);have n2_:=Aside0.mk (blk_below (g:=gb614) (o:=.cells #[.slice A0_0 l0_0.length c0_0,.int .u64 a0_1,.slice A0_2 l0_2.length c0_2] 26 (0,0)) (vK BK614.out) hb);have n3_:=Aside0.mk (below_step (vBg HB.out GE614.out) hb);clear HO1;clear HO2;clear BK614;clear HB;have HO1:=n0_;have HO2:=n1_;have BK614:=n2_;have HB:=n3_;clear n0_ n1_ n2_ n3_;(try clear hb);(try clear hb2);(try clear hk);(try clear hi);have hcz26_0:w25.cell? ⟨gb614,0,none⟩ = some (.slice A0_0 l0_0.length c0_0):=(blk_cell BK614.out 0).trans rfl;have hcz26_1:w25.cell? ⟨gb614,1,none⟩ = some (.int .u64 a0_1):=(blk_cell BK614.out 1).trans rfl;have hcz26_2:w25.cell? ⟨gb614,2,none⟩ = some (.slice A0_2 l0_2.length c0_2):=(blk_cell BK614.out 2).trans rfl;have hfz26_0:=blk_frozen BK614.out 0;have hfz26_1:=blk_frozen BK614.out 1;have hfz26_2:=blk_frozen BK614.out 2) | ((with_reducible refine gate_dst (N:=16) rfl ?_);refine Kd.N_lit (Kd.slice 24 (Kd.int .u64)) _ 23 ?hg (N':=16) ?hd (xs:=([l1,l2]:List (List Int))) (inner:=[.slice A1 l1.length c1,.slice A2 l2.length c2]) (ok:=(fun k_ => ((P1_ k_∨P2_ k_)∨w.heap.size≤k_)∧k_≠gb614)) (okp:=(fun k_ => ((P1_ k_∨P2_ k_)∨w.heap.size≤k_)∧k_≠gb614)) ?hr ?hp (fun _ hk => hk) ((show ∀ k_,w25.heap.size≤k_→(fun k_ => ((P1_ k_∨P2_ k_)∨w.heap.size≤k_)∧k_≠gb614) k_ from fun k_ hk => ⟨(.inr (Nat.le_trans (below_size (vBg HB.out GE614.out)) hk)),Kd.freshB (g:=gb614) (o:=.cells #[.slice A0_0 l0_0.length c0_0,.int .u64 a0_1,.slice A0_2 l0_2.length c0_2] 26 (0,0)) (vK BK614.out) k_ hk⟩) _ (Nat.le_refl _)) (Below.refl _ _) (Nat.le_refl _) (by simp) ?_;(case hd => rfl);(case hg => rfl);(case hr => first | (go_simp;done) | (go_simp;rfl));(case hp => exact (Reps.one (show Kd.FK (Kd.slice 24 (Kd.int .u64)) _ _ l1 [.slice A1 l1.length c1] from (Kd.FK_slice_mk (Kd.V_reads' (Kd.V_mono (ok':=(fun k_ => ((P1_ k_∨P2_ k_)∨w.heap.size≤k_)∧k_≠gb614)) (HO1.out) (fun k_ hk => ⟨hk.1,hk.2⟩))).2.1 (Kd.V_F (by (with_reducible repeat (first | apply Kd.V_alloc | apply Kd.V_drewN | apply Kd.V_drew));exact (Kd.V_mono (ok':=(fun k_ => ((P1_ k_∨P2_ k_)∨w.heap.size≤k_)∧k_≠gb614)) (HO1.out) (fun k_ hk => ⟨hk.1,hk.2⟩)))))) (Reps.one (show Kd.FK (Kd.slice 24 (Kd.int .u64)) _ _ l2 [.slice A2 l2.length c2] from (Kd.FK_slice_mk (Kd.V_reads' (Kd.V_mono (ok':=(fun k_ => ((P1_ k_∨P2_ k_)∨w.heap.size≤k_)∧k_≠gb614)) (HO2.out) (fun k_ hk => ⟨hk.1,hk.2⟩))).2.1 (Kd.V_F (by (with_reducible repeat (first | apply Kd.V_alloc | apply Kd.V_drewN | apply Kd.V_drew));exact (Kd.V_mono (ok':=(fun k_ => ((P1_ k_∨P2_ k_)∨w.heap.size≤k_)∧k_≠gb614)) (HO2.out) (fun k_ hk => ⟨hk.1,hk.2⟩)))))) (Reps.none _ _))));intro v617 w27 ho28 hb hg_ hnew_;clear hg_ hnew_;(first | rw [← Ny616.out] at ho28 | (simp only [Int.reduceToNat] at ho28;rw [← Ny616.out] at ho28));have n0_:=Aside0.mk (Kd.V_elder' (vV HO1.out) (Kd.N_base ho28) hb);have n1_:=Aside0.mk (Kd.V_elder' (vV HO2.out) (Kd.N_base ho28) hb);have n2_:=Aside0.mk (Kd.N_lower ho28 (below_size (vBg HB.out GE614.out)));have n3_:=Aside0.mk (blk_below (g:=gb614) (o:=.cells #[.slice A0_0 l0_0.length c0_0,.int .u64 a0_1,.slice A0_2 l0_2.length c0_2] 26 (0,0)) (vK BK614.out) hb);have n4_:=Aside0.mk (below_step (vBg HB.out GE614.out) hb);clear HO1;clear HO2;clear BK614;clear HB;have HO1:=n0_;have HO2:=n1_;have HO618:=n2_;have BK614:=n3_;have HB:=n4_;clear n0_ n1_ n2_ n3_ n4_;clear hb ho28;obtain ⟨Ao29,co29,eo29⟩:=Kd.N_slice HO618.out;subst eo29) | ((with_reducible refine gate_callee (f:=17) rfl ?_);refine goesL_ (some 17) rfl rfl Try.func17 (by kernel_rfl) rfl #[.agg #[.slice A0_0 l0_0.length c0_0,.int .u64 a0_1,.slice A0_2 l0_2.length c0_2],.slice Ao29 y616.length co29] rfl vA ?_;(with_reducible refine (sconcelaw07_Few.calls k (fun k_ => k_ < w.heap.size) _ _ l0_0 a0_1 (fun k_ => k_ < w.heap.size) _ _ l0_2 _ _ y616 false _ ?side1 ?side2 ?side3 ?side4 A6.out).mono ?_);(case side1 => exact Kd.V_mk HC0_0.out (Kd.F_below (Kd.C_F (Kd.heap_int .u64) HR0_0.out) (vBg HB.out GE614.out)));(case side2 => exact Kd.V_mk HC0_2.out (Kd.F_below (Kd.C_F (Kd.heap_int .u64) HR0_2.out) (vBg HB.out GE614.out)));(case side3 => repeat (first | exact (Kd.N_reads' HO618.out).2.2 | (with_reducible refine Kd.C_alloc ?_ _) | (with_reducible refine Kd.C_drewN ?_ _) | (with_reducible refine Kd.C_drew ?_)));(case side4 => exact (Kd.N_reads' HO618.out).2.1);rintro e w30 ⟨rfl,hb⟩;refine ⟨_,rfl,?_⟩;have n0_:=Aside0.mk (Kd.V_below (vV HO1.out) hb);have n1_:=Aside0.mk (Kd.V_below (vV HO2.out) hb);have n2_:=Aside0.mk (Kd.N_below (by (with_reducible repeat (first | apply Kd.N_alloc | apply Kd.N_drewN | apply Kd.N_drew));exact HO618.out) hb);have n3_:=Aside0.mk (blk_below (g:=gb614) (o:=.cells #[.slice A0_0 l0_0.length c0_0,.int .u64 a0_1,.slice A0_2 l0_2.length c0_2] 26 (0,0)) (vK BK614.out) hb);have n4_:=Aside0.mk (below_step (vBg HB.out GE614.out) hb);clear HO1;clear HO2;clear HO618;clear BK614;clear HB;have HO1:=n0_;have HO2:=n1_;have HO618:=n2_;have BK614:=n3_;have HB:=n4_;clear n0_ n1_ n2_ n3_ n4_;(try clear hb);(try clear hb2);(try clear hk);(try clear hi)))
   go_ret
   exact ⟨by first | rfl | (simp [errW_none,errW_some] <;> rfl) | (simp [*,errW_none,errW_some] <;> rfl),by repeat (first | (with_reducible first | exact HB.out | apply below_alloc | apply pw_below_drewN | apply below_drew1 | refine below_set ?_ GE614.out) | exact HB.out)⟩
 ·
  replace c5:=Bool.eq_false_iff.mpr c5
  subst c5
  have H1:(some false) = some r:=by rw [if_neg (show ¬ (false = true) by decide)] at H;exact H
  clear H
  have H:=H1
  clear H1
  obtain rfl:=Option.some.inj H
  go_enter Try.func5,Try.ntmps5
  go_wp2_with (first | ((with_reducible refine gate_dst (N:=3) rfl ?_);refine box_event ?hg (N:=3) ?hd (cs:=#[.slice A0_0 l0_0.length c0_0,.int .u64 a0_1,.slice A0_2 l0_2.length c0_2]) (t:=26) ?hr ?_;(case hd => rfl);(case hg => rfl);(case hr => first | (go_simp;done) | (go_simp;rfl));intro gb614 hg w31 hbox hb;have n0_:=Aside0.mk (Kd.V_below (Kd.V_elderB (vV HO1.out) gb614 (Nat.le_of_eq hg.symm)) hb);have n1_:=Aside0.mk (Kd.V_below (Kd.V_elderB (vV HO2.out) gb614 (Nat.le_of_eq hg.symm)) hb);have n2_:=Aside0.mk (below_step (vB HB.out) hb);have n3_:=Aside0.mk (hbox);have n4_:=Aside0.mk ((by rw [hg];exact (below_size (vB HB.out)):w.heap.size≤gb614));have n5_:=Aside0.mk ((by rw [hg];exact (below_size (vB HB.out)):w.heap.size≤gb614));clear HO1;clear HO2;clear HB;have HO1:=n0_;have HO2:=n1_;have HB:=n2_;have BK614:=n3_;have GW614:=n4_;have GE614:=n5_;clear n0_ n1_ n2_ n3_ n4_ n5_;clear hb hbox hg) | ((with_reducible refine gate_callee (f:=16) rfl ?_);refine goesL_ (some 11) rfl rfl Try.func16 (by kernel_rfl) rfl #[] rfl vA ?_;(with_reducible refine (sconcelaw07_awake.calls k  false _ A4.out).mono ?_);rintro e w32 ⟨rfl,hb⟩;refine ⟨_,rfl,?_⟩;have n0_:=Aside0.mk (Kd.V_below (vV HO1.out) hb);have n1_:=Aside0.mk (Kd.V_below (vV HO2.out) hb);have n2_:=Aside0.mk (blk_below (g:=gb614) (o:=.cells #[.slice A0_0 l0_0.length c0_0,.int .u64 a0_1,.slice A0_2 l0_2.length c0_2] 26 (0,0)) (vK BK614.out) hb);have n3_:=Aside0.mk (below_step (vBg HB.out GE614.out) hb);clear HO1;clear HO2;clear BK614;clear HB;have HO1:=n0_;have HO2:=n1_;have BK614:=n2_;have HB:=n3_;clear n0_ n1_ n2_ n3_;(try clear hb);(try clear hb2);(try clear hk);(try clear hi)))
  go_ret
  exact ⟨by first | rfl | (simp [errW_none,errW_some] <;> rfl) | (simp [*,errW_none,errW_some] <;> rfl),by repeat (first | (with_reducible first | exact HB.out | apply below_alloc | apply pw_below_drewN | apply below_drew1 | refine below_set ?_ GE614.out) | exact HB.out)⟩
end Go.Proofs.Ytonpekldcnankaa.X
end
section
namespace Go.Proofs.Ytonpekldcnankaa.X
open Go.RowKit
def sconcelaw07_RingMuls.PureS:Prop:=∀ (l0_0:List Int) (b0_1:Int) (l0_2:List Int) (l1:List Int) (l2:List Int),l0_0.length≤maxLen→(∀ x ∈ l0_0,(Lit.int .u64 x).wf = true)→(Lit.int .u64 b0_1).wf = true→l0_2.length≤maxLen→(∀ x ∈ l0_2,(Lit.int .u64 x).wf = true)→l1.length≤maxLen→(∀ x ∈ l1,(Lit.int .u64 x).wf = true)→l2.length≤maxLen→(∀ x ∈ l2,(Lit.int .u64 x).wf = true)→∃ k,sconcelaw07_RingMuls.f k l0_0 b0_1 l0_2 l1 l2 = some true
end Go.Proofs.Ytonpekldcnankaa.X
end
section
namespace Go.Proofs.Ytonpekldcnankaa.X
open Go.RowKit Go.Proofs.YtonpekldcnankaaW.PrintWords Go.Proofs.YtonpekldcnankaaW.PrintMore Go.Proofs.YtonpekldcnankaaW.PrintLast Go.Proofs.Ytonpekldcnankaa.Ma
set_option linter.unusedVariables false
set_option linter.unusedSimpArgs false
theorem ref7_loop {m rr:List Int} {K:Int} (hm:Wd m) (lm:m.length≤1000) (ls:List (List Int)) (hls:∀ r ∈ ls,Wd r) (hn:ls.length≤1000000):∀ (d i:Nat),i + d = ls.length →
    Ev (fun k => sconceref07_Members.l0 k ls (ls.length:Int) (i:Int) m K rr) ((ls.drop i).all (memB m)):=by
  intro d
  induction d with
  | zero =>
    intro i hi
    refine Ev.step (fun k => sconceref07_Members.l0.eq_2 ..) (ev_neg (by omega) (ev_const ?_))
    rw [List.drop_eq_nil_of_le (by omega)]
    rfl
  | succ d ih =>
    intro i hi
    have hil:i < ls.length:=by omega
    have e:rd_L2 ls (i:Int) = ls[i]:=by rw [rdLI,List.getD_eq_getElem?_getD,List.getElem?_eq_getElem hil,Option.getD_some]
    have e2:wrap64 ((i:Int) + 1) = ((i + 1:Nat):Int):=by rw [w64 (by omega) (by omega)];omega
    refine Ev.step (fun k => sconceref07_Members.l0.eq_2 ..) (ev_pos (by omega) (ev_pos (by omega) (ev_pos (by omega) ?_)))
    rw [e,e2]
    refine ev_bind (sp_ref6_Member hm lm (hls _ (List.getElem_mem hil))) ?_
    rw [List.drop_eq_getElem_cons hil,List.all_cons]
    by_cases h:memB m ls[i] = true
    · rw [h,Bool.true_and]
      exact ev_pos rfl (ih (i + 1) (by omega))
    · rw [Bool.not_eq_true] at h
      rw [h,Bool.false_and]
      exact ev_neg (by decide) (ev_const rfl)
theorem sp_ref7_Members {m rr:List Int} {K:Int} {R:List Int × Int × List Int × Int} (hm:Wd m) (lm:m.length≤1000) (hR:SetR (nW m) R) (ls:List (List Int)) (hls:∀ r ∈ ls,Wd r) (hn:ls.length≤1000000) :
    Ev (fun k => sconceref07_Members.f k m K rr ls) (chkB R m K rr && ls.all (memB m)):=by
  obtain ⟨S,s1,s2⟩:=sp_ref6_Check (rr:=rr) (K:=K) hm lm
  obtain rfl:=hR.uniq s1
  unfold sconceref07_Members.f
  refine ev_bind s2 ?_
  by_cases h:chkB R m K rr = true
  · rw [h,Bool.true_and]
    exact ev_pos rfl (ref7_loop hm lm ls hls hn ls.length 0 (by omega))
  · rw [Bool.not_eq_true] at h
    rw [h,Bool.false_and]
    exact ev_neg (by decide) (ev_const rfl)
theorem sp_out {m rr:List Int} {K:Int} {R:List Int × Int × List Int × Int} (hm:Wd m) (lm:m.length≤300) (hR:SetR (nW m) R) {ls:List (List Int)} (hls:∀ r ∈ ls,Wd r) (v:List Int) :
    Ev (fun k => Rg.out (mont_Check.f k m K rr) m ls v) (if (chkB R m K rr && ls.all (memB m)) = true then (v,0) else ([],1)):=by
  obtain ⟨S,s1,s2⟩:=sp_mont_Check (rr:=rr) (K:=K) hm (by omega)
  obtain rfl:=hR.uniq s1
  unfold Rg.out
  refine ev_pos (Rg.ok_iff.2 ⟨⟨hm,hls⟩,lm⟩) (ev_bind s2 ?_)
  have e:Rg.mem m ls = ls.all (memB m):=rfl
  rw [e]
  by_cases h:chkB R m K rr = true
  · by_cases h2:ls.all (memB m) = true
    · have hr:(if (chkB R m K rr && ls.all (memB m)) = true then (v,(0:Int)) else ([],1)) = (v,0):=if_pos (by rw [h,h2];rfl)
      rw [hr]
      exact ev_pos ⟨h,h2⟩ (ev_const rfl)
    · have hr:(if (chkB R m K rr && ls.all (memB m)) = true then (v,(0:Int)) else ([],1)) = ([],1):=if_neg (by rw [h,Bool.true_and];exact h2)
      rw [hr]
      exact ev_neg (fun g => h2 g.2) (ev_const rfl)
  · have hr:(if (chkB R m K rr && ls.all (memB m)) = true then (v,(0:Int)) else ([],1)) = ([],1):=if_neg (fun g => h (Bool.and_eq_true_iff.1 g).1)
    rw [hr]
    exact ev_neg (fun g => h g.1) (ev_const rfl)
theorem mem_of_all {m:List Int} {ls:List (List Int)} (h:ls.all (memB m) = true):∀ r ∈ ls,r.length = m.length∧nW r < nW m:=fun r hr => by
  have:=List.all_eq_true.1 h r hr
  unfold memB at this
  simpa using this
section
variable {m rr a b:List Int} {K:Int} {R:List Int × Int × List Int × Int}
theorem sp_ref7_Mul (hm:Wd m) (lm:m.length≤300) (hR:SetR (nW m) R) (ha:Wd a) (hb:Wd b) :
    Ev (fun k => sconceref07_Mul.f k m K rr a b) (if (chkB R m K rr && [a,b].all (memB m)) = true then (wds m.length (nW a * nW b % nW m),0) else ([],1)):=by
  have hM:=sp_ref7_Members (K:=K) (rr:=rr) hm (by omega) hR [a,b] (by simp [ha,hb]) (by simp)
  unfold sconceref07_Mul.f
  refine ev_bind hM ?_
  by_cases h:(chkB R m K rr && [a,b].all (memB m)) = true
  · have hI:=isMod_of_chk hR (Bool.and_eq_true_iff.1 h).1
    have hmem:=mem_of_all (Bool.and_eq_true_iff.1 h).2
    have m1:=hmem a (by simp)
    have m2:=hmem b (by simp)
    have h1:=hI.2.2.1
    have bm:=blen_nW hm
    have ba:=blen_nW ha
    have bb:=blen_nW hb
    rw [if_pos h]
    refine ev_pos h (ev_bind (sp_OfW ha (by omega)) (ev_bind (sp_OfW hb (by omega)) (ev_bind (sp_OfW hm (by omega)) (ev_bind (sp_MulMod (by omega) (by omega) (by omega) (by omega)) (ev_bind (sp_Nat (by omega)) (ev_const rfl))))))
  · rw [if_neg h]
    exact ev_neg h (ev_const rfl)
end
theorem sp_few7 (m:List Int) (K:Int) (rr:List Int) (ls:List (List Int)) (hn:ls.length≤1000000000):Ev (fun k => sconcelaw07_Few.f k m K rr ls) (fewB 40 [m,rr] && fewB 40 ls):=by
  unfold sconcelaw07_Few.f
  refine ev_bind (sp_Few5 _ (by simp)) ?_
  by_cases h:fewB 40 [m,rr] = true
  · rw [h,Bool.true_and]
    exact ev_pos rfl (ev_bind (sp_Few5 _ hn) (ev_const rfl))
  · rw [Bool.not_eq_true] at h
    rw [h,Bool.false_and]
    exact ev_neg (by decide) (ev_const rfl)
theorem sp_as (x:List Int) (e:Int) (y:List Int) (f:Int) (hx:x.length≤1000000000):Ev (fun k => sconcelaw07_as.f k x e y f) (decide (e = f) && decide (x = y)):=by
  unfold sconcelaw07_as.f
  by_cases h:e = f
  · rw [decide_eq_true h,Bool.true_and]
    exact ev_pos h (ev_bind (sp_Same (by omega)) (ev_const rfl))
  · rw [decide_eq_false h,Bool.false_and]
    exact ev_neg h (ev_const rfl)
theorem as_same {x:List Int × Int} (hx:x.1.length≤1000000000):Ev (fun k => sconcelaw07_as.f k x.1 x.2 x.1 x.2) true:=by
  have:=sp_as x.1 x.2 x.1 x.2 hx
  simpa using this
theorem awake7:Ev (fun k => sconcelaw07_awake.f k) true:=Ev.of (fun k => sconcelaw07_awake.mono k) (k:=130) (by kernel_rfl)
end Go.Proofs.Ytonpekldcnankaa.X
end
section
namespace Go.Proofs.Ytonpekldcnankaa.Pure
open Go.RowKit Go.Proofs.Ytonpekldcnankaa.X Go.Proofs.YtonpekldcnankaaW.PrintWords Go.Proofs.YtonpekldcnankaaW.PrintLast Go.Proofs.Ytonpekldcnankaa.Ma
set_option linter.unusedVariables false
set_option linter.unusedSimpArgs false
theorem RingMuls:sconcelaw07_RingMuls.PureS:=by
  intro m K rr a b _ hm _ _ _ _ ha _ hb
  rw [wf_Wd] at hm ha hb
  refine Ev.rounds ?_
  unfold sconcelaw07_RingMuls.f
  refine ev_bind awake7 (ev_pos rfl (ev_bind (sp_few7 _ _ _ _ (by simp)) ?_))
  by_cases h:(fewB 40 [m,rr] && fewB 40 [a,b]) = true
  · have h':(m.length≤40∧rr.length≤40)∧a.length≤40∧b.length≤40:=by simpa [fewB] using h
    obtain ⟨R,hR,_⟩:=sp_mont_Check (rr:=rr) (K:=K) hm (by omega)
    have hls:∀ r ∈ [a,b],Wd r:=by simp [ha,hb]
    refine ev_pos h (ev_bind (sp_out hm (by omega) hR hls _) (ev_bind (sp_ref7_Mul hm (by omega) hR ha hb) (ev_bind (as_same ?_) (ev_const rfl))))
    split <;> simp [dgs_length]
    omega
  · exact ev_neg h (ev_const rfl)
end Go.Proofs.Ytonpekldcnankaa.Pure
end
