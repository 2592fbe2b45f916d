/- Texts of the walk and of the plain laws, laid together by a program: X37. -/
import Derived.Test.YtalfniohakahlaaZD0
import Derived.Test.YtalfniohakahlaaZD1
import Derived.Test.YtalfniohakahlaaZD2
import Derived.Test.YtalfniohakahlaaZD5
import Derived.Test.YtalfniohakahlaaZD4
import Derived.Test.YtalfniohakahlaaZD7
import Derived.Test.YtalfniohakahlaaZD3
import Derived.Test.YtalfniohakahlaaZD8
import Derived.Test.YtalfniohakahlaaZD9
import Derived.Test.YtalfniohakahlaaZD29
import Derived.Test.YtalfniohakahlaaZD31
import Derived.Test.YtalfniohakahlaaZD33
import Derived.Test.YtalfniohakahlaaZD34
set_option maxHeartbeats 8000000
set_option maxRecDepth 100000
namespace Go.Proofs.Ytalfniohakahlaa.X
open Go.RowKit Go.Proofs.YtalfniohakahlaaW.PrintWords Go.Proofs.YtalfniohakahlaaW.PrintLast Go.Proofs.YtalfniohakahlaaW.PrintMore
attribute [local go_sem] max2_int min2_int max_two min_two max_three min_three max_four min_four
set_option linter.unusedVariables false
set_option linter.unusedSimpArgs false
def mont_Mul.f (k:Nat)  (l1_0:List Int) (a1_1:Int) (l1_2:List Int) (l2:List Int) (l3:List Int):Option (List Int × Int):=(mont_members.f k l1_0 a1_1 l1_2 (([l2,l3]:List (List Int)))).bind fun t729 => (if t729 = true then ((mont_Product.f k l1_0 a1_1 l1_2 l2 l3).bind fun t730 => (some (t730,0))) else (some (([]:List Int),1)))
theorem mont_Mul.calls (k:Nat)  (A1_0:Option Addr) (c1_0:Nat) (l1_0:List Int) (a1_1:Int) (A1_2:Option Addr) (c1_2:Nat) (l1_2:List Int) (P2_:Nat→Prop) (A2:Option Addr) (c2:Nat) (l2:List Int) (P3_:Nat→Prop) (A3:Option Addr) (c3:Nat) (l3:List Int) (r1:List Int) (r2:Int) (w:World) (hr1_0:Kd.C (Kd.int .u64) w A1_0 l1_0.length l1_0) (hc1_0:l1_0.length≤c1_0) (hr1_2:Kd.C (Kd.int .u64) w A1_2 l1_2.length l1_2) (hc1_2:l1_2.length≤c1_2) (hs2:Kd.V (Kd.int .u64) 37 w w.heap.size (fun k_ => P2_ k_) (.slice A2 l2.length c2) l2) (hs3:Kd.V (Kd.int .u64) 37 w w.heap.size (fun k_ => P3_ k_) (.slice A3 l3.length c3) l3) (h:mont_Mul.f k l1_0 a1_1 l1_2 l2 l3 = some (r1,r2)) :
  Calls Try.prog 42 #[.pointer none,.agg #[.slice A1_0 l1_0.length c1_0,.int .u64 a1_1,.slice A1_2 l1_2.length c1_2],.slice A2 l2.length c2,.slice A3 l3.length c3] w fun e w' => ∃ v0_:Value,e = .returned (.tuple #[v0_,.int .i64 r2])∧Kd.R (Kd.int .u64) 37 w' w.heap.size (fun k_ => (w.heap.size≤k_)) v0_ r1∧Below w.heap.size w w':=by
 have hu59:=Try.underlying59
 have HR1_0:=Aside0.mk hr1_0
 have HC1_0:=Aside0.mk hc1_0
 clear hr1_0 hc1_0
 have HR1_2:=Aside0.mk hr1_2
 have HC1_2:=Aside0.mk hc1_2
 clear hr1_2 hc1_2
 have HO2:=Aside0.mk (show Kd.V (Kd.int .u64) 37 w w.heap.size (fun k_ => ((P2_ k_∨P3_ k_)∨w.heap.size≤k_)) (.slice A2 l2.length c2) l2 from Kd.V_mono hs2 (fun k_ hk => .inl (.inl hk)))
 have HO3:=Aside0.mk (show Kd.V (Kd.int .u64) 37 w w.heap.size (fun k_ => ((P2_ k_∨P3_ k_)∨w.heap.size≤k_)) (.slice A3 l3.length c3) l3 from Kd.V_mono hs3 (fun k_ hk => .inl (.inr hk)))
 have HB:=Aside0.mk (Below.refl w.heap.size w)
 have H:((mont_members.f k l1_0 a1_1 l1_2 (([l2,l3]:List (List Int)))).bind fun t729 => (if t729 = true then ((mont_Product.f k l1_0 a1_1 l1_2 l2 l3).bind fun t730 => (some (t730,0))) else (some (([]:List Int),1)))) = some (r1,r2):=h
 clear h
 obtain ⟨y726,hy726⟩:∃ y_:List (List Int),y_ = (([l2,l3]:List (List Int))):=⟨_,rfl⟩
 replace H:((mont_members.f k l1_0 a1_1 l1_2 y726).bind fun t729 => (if t729 = true then ((mont_Product.f k l1_0 a1_1 l1_2 l2 l3).bind fun t730 => (some (t730,0))) else (some (([]:List Int),1)))) = some (r1,r2):=by first | (rw [hy726];with_reducible exact H) | (have H2_:=(Option.bind_some _ _).symm.trans H;rw [hy726];with_reducible exact H2_) | (have H2_:=(Option.bind_some _ _).symm.trans H;with_reducible exact H2_) | with_reducible exact H | (rw [hy726];exact H) | exact H
 have Ny726:=Aside0.mk hy726
 clear hy726
 replace H:=Option.bind_eq_some_iff.mp H
 obtain ⟨t729,A50,H⟩:=H
 replace H:(if t729 = true then ((mont_Product.f k l1_0 a1_1 l1_2 l2 l3).bind fun t730 => (some (t730,0))) else (some (([]:List Int),1))) = some (r1,r2):=H
 have A5:=Aside0.mk A50
 clear A50
 by_cases c6:t729 = true
 ·
  subst c6
  have H1:((mont_Product.f k l1_0 a1_1 l1_2 l2 l3).bind fun t730 => (some (t730,0))) = some (r1,r2):=by rw [if_pos rfl] at H;exact H
  clear H
  have H:=H1
  clear H1
  replace H:=Option.bind_eq_some_iff.mp H
  obtain ⟨t730,A70,H⟩:=H
  replace H:(some (t730,0)) = some (r1,r2):=H
  have A7:=Aside0.mk A70
  clear A70
  simp only [Option.some.injEq,Prod.mk.injEq] at H
  obtain ⟨rfl,rfl⟩:=H
  go_enter Try.func42,Try.ntmps42
  go_wp2_with (first | ((with_reducible refine gate_dst (N:=5) rfl ?_);refine box_event ?hg (N:=5) ?hd (cs:=#[.slice A1_0 l1_0.length c1_0,.int .u64 a1_1,.slice A1_2 l1_2.length c1_2]) (t:=59) ?hr ?_;(case hd => rfl);(case hg => rfl);(case hr => first | (go_simp;done) | (go_simp;rfl));intro gb725 hg w8 hbox hb;have n0_:=Aside0.mk (Kd.V_below (Kd.V_elderB (vV HO2.out) gb725 (Nat.le_of_eq hg.symm)) hb);have n1_:=Aside0.mk (Kd.V_below (Kd.V_elderB (vV HO3.out) gb725 (Nat.le_of_eq hg.symm)) hb);have n2_:=Aside0.mk (below_step (vB HB.out) hb);have n3_:=Aside0.mk (hbox);have n4_:=Aside0.mk ((by rw [hg];exact (below_size (vB HB.out)):w.heap.size≤gb725));have n5_:=Aside0.mk ((by rw [hg];exact (below_size (vB HB.out)):w.heap.size≤gb725));clear HO2;clear HO3;clear HB;have HO2:=n0_;have HO3:=n1_;have HB:=n2_;have BK725:=n3_;have GW725:=n4_;have GE725:=n5_;clear n0_ n1_ n2_ n3_ n4_ n5_;clear hb hbox hg;have hcz9_0:w8.cell? ⟨gb725,0,none⟩ = some (.slice A1_0 l1_0.length c1_0):=(blk_cell BK725.out 0).trans rfl;have hcz9_1:w8.cell? ⟨gb725,1,none⟩ = some (.int .u64 a1_1):=(blk_cell BK725.out 1).trans rfl;have hcz9_2:w8.cell? ⟨gb725,2,none⟩ = some (.slice A1_2 l1_2.length c1_2):=(blk_cell BK725.out 2).trans rfl;have hfz9_0:=blk_frozen BK725.out 0;have hfz9_1:=blk_frozen BK725.out 1;have hfz9_2:=blk_frozen BK725.out 2) | ((with_reducible refine gate_dst (N:=13) rfl ?_);refine Kd.N_lit (Kd.slice 37 (Kd.int .u64)) _ 23 ?hg (N':=13) ?hd (xs:=([l2,l3]:List (List Int))) (inner:=[.slice A2 l2.length c2,.slice A3 l3.length c3]) (ok:=(fun k_ => ((P2_ k_∨P3_ k_)∨w.heap.size≤k_)∧k_≠gb725)) (okp:=(fun k_ => ((P2_ k_∨P3_ k_)∨w.heap.size≤k_)∧k_≠gb725)) ?hr ?hp (fun _ hk => hk) ((show ∀ k_,w8.heap.size≤k_→(fun k_ => ((P2_ k_∨P3_ k_)∨w.heap.size≤k_)∧k_≠gb725) k_ from fun k_ hk => ⟨(.inr (Nat.le_trans (below_size (vBg HB.out GE725.out)) hk)),Kd.freshB (g:=gb725) (o:=.cells #[.slice A1_0 l1_0.length c1_0,.int .u64 a1_1,.slice A1_2 l1_2.length c1_2] 59 (0,0)) (vK BK725.out) k_ hk⟩) _ (Nat.le_refl _)) (Below.refl _ _) (Nat.le_refl _) (by simp) ?_;(case hd => rfl);(case hg => rfl);(case hr => first | (go_simp;done) | (go_simp;rfl));(case hp => exact (Reps.one (show Kd.FK (Kd.slice 37 (Kd.int .u64)) _ _ l2 [.slice A2 l2.length c2] from (Kd.FK_slice_mk (Kd.V_reads' (Kd.V_mono (ok':=(fun k_ => ((P2_ k_∨P3_ k_)∨w.heap.size≤k_)∧k_≠gb725)) (HO2.out) (fun k_ hk => ⟨hk.1,hk.2⟩))).2.1 (Kd.V_F (by (with_reducible repeat (first | apply Kd.V_alloc | apply Kd.V_drewN | apply Kd.V_drew));exact (Kd.V_mono (ok':=(fun k_ => ((P2_ k_∨P3_ k_)∨w.heap.size≤k_)∧k_≠gb725)) (HO2.out) (fun k_ hk => ⟨hk.1,hk.2⟩)))))) (Reps.one (show Kd.FK (Kd.slice 37 (Kd.int .u64)) _ _ l3 [.slice A3 l3.length c3] from (Kd.FK_slice_mk (Kd.V_reads' (Kd.V_mono (ok':=(fun k_ => ((P2_ k_∨P3_ k_)∨w.heap.size≤k_)∧k_≠gb725)) (HO3.out) (fun k_ hk => ⟨hk.1,hk.2⟩))).2.1 (Kd.V_F (by (with_reducible repeat (first | apply Kd.V_alloc | apply Kd.V_drewN | apply Kd.V_drew));exact (Kd.V_mono (ok':=(fun k_ => ((P2_ k_∨P3_ k_)∨w.heap.size≤k_)∧k_≠gb725)) (HO3.out) (fun k_ hk => ⟨hk.1,hk.2⟩)))))) (Reps.none _ _))));intro v727 w10 ho11 hb hg_ hnew_;clear hg_ hnew_;(first | rw [← Ny726.out] at ho11 | (simp only [Int.reduceToNat] at ho11;rw [← Ny726.out] at ho11));have n0_:=Aside0.mk (Kd.V_elder' (vV HO2.out) (Kd.N_base ho11) hb);have n1_:=Aside0.mk (Kd.V_elder' (vV HO3.out) (Kd.N_base ho11) hb);have n2_:=Aside0.mk (Kd.N_lower ho11 (below_size (vBg HB.out GE725.out)));have n3_:=Aside0.mk (blk_below (g:=gb725) (o:=.cells #[.slice A1_0 l1_0.length c1_0,.int .u64 a1_1,.slice A1_2 l1_2.length c1_2] 59 (0,0)) (vK BK725.out) hb);have n4_:=Aside0.mk (below_step (vBg HB.out GE725.out) hb);clear HO2;clear HO3;clear BK725;clear HB;have HO2:=n0_;have HO3:=n1_;have HO728:=n2_;have BK725:=n3_;have HB:=n4_;clear n0_ n1_ n2_ n3_ n4_;clear hb ho11;obtain ⟨Ao12,co12,eo12⟩:=Kd.N_slice HO728.out;subst eo12) | ((with_reducible refine gate_callee (f:=81) rfl ?_);refine goesL_ (some 14) rfl rfl Try.func81 (by kernel_rfl) rfl #[.agg #[.slice A1_0 l1_0.length c1_0,.int .u64 a1_1,.slice A1_2 l1_2.length c1_2],.slice Ao12 y726.length co12] rfl vA ?_;(with_reducible refine (mont_members.calls k _ _ l1_0 a1_1 _ _ l1_2 _ _ y726 true _ ?side1 ?side2 ?side3 ?side4 ?side5 ?side6 A5.out).mono ?_);(case side1 => repeat (first | exact (Kd.C_below HR1_0.out HB.out) | (with_reducible refine Kd.C_alloc ?_ _) | (with_reducible refine Kd.C_drewN ?_ _) | (with_reducible refine Kd.C_drew ?_)));(case side2 => exact HC1_0.out);(case side3 => repeat (first | exact (Kd.C_below HR1_2.out HB.out) | (with_reducible refine Kd.C_alloc ?_ _) | (with_reducible refine Kd.C_drewN ?_ _) | (with_reducible refine Kd.C_drew ?_)));(case side4 => exact HC1_2.out);(case side5 => repeat (first | exact (Kd.N_reads' HO728.out).2.2 | (with_reducible refine Kd.C_alloc ?_ _) | (with_reducible refine Kd.C_drewN ?_ _) | (with_reducible refine Kd.C_drew ?_)));(case side6 => exact (Kd.N_reads' HO728.out).2.1);rintro e w13 ⟨rfl,hb⟩;refine ⟨_,rfl,?_⟩;have n0_:=Aside0.mk (Kd.V_below (vV HO2.out) hb);have n1_:=Aside0.mk (Kd.V_below (vV HO3.out) hb);have n2_:=Aside0.mk (Kd.N_below (by (with_reducible repeat (first | apply Kd.N_alloc | apply Kd.N_drewN | apply Kd.N_drew));exact HO728.out) hb);have n3_:=Aside0.mk (blk_below (g:=gb725) (o:=.cells #[.slice A1_0 l1_0.length c1_0,.int .u64 a1_1,.slice A1_2 l1_2.length c1_2] 59 (0,0)) (vK BK725.out) hb);have n4_:=Aside0.mk (below_step (vBg HB.out GE725.out) hb);clear HO2;clear HO3;clear HO728;clear BK725;clear HB;have HO2:=n0_;have HO3:=n1_;have HO728:=n2_;have BK725:=n3_;have HB:=n4_;clear n0_ n1_ n2_ n3_ n4_;(try clear hb);(try clear hb2);(try clear hk);(try clear hi);have hcz14_0:w13.cell? ⟨gb725,0,none⟩ = some (.slice A1_0 l1_0.length c1_0):=(blk_cell BK725.out 0).trans rfl;have hcz14_1:w13.cell? ⟨gb725,1,none⟩ = some (.int .u64 a1_1):=(blk_cell BK725.out 1).trans rfl;have hcz14_2:w13.cell? ⟨gb725,2,none⟩ = some (.slice A1_2 l1_2.length c1_2):=(blk_cell BK725.out 2).trans rfl;have hfz14_0:=blk_frozen BK725.out 0;have hfz14_1:=blk_frozen BK725.out 1;have hfz14_2:=blk_frozen BK725.out 2) | ((with_reducible refine gate_callee (f:=82) rfl ?_);refine goesL_ (some 20) rfl rfl Try.func82 (by kernel_rfl) rfl #[.pointer none,.agg #[.slice A1_0 l1_0.length c1_0,.int .u64 a1_1,.slice A1_2 l1_2.length c1_2],.slice A2 l2.length c2,.slice A3 l3.length c3] rfl vA ?_;(with_reducible refine (mont_Product.calls k  _ _ l1_0 a1_1 _ _ l1_2 _ _ l2 _ _ l3 t730 _ ?side1 ?side2 ?side3 ?side4 ?side5 ?side6 ?side7 ?side8 A7.out).mono ?_);(case side1 => repeat (first | exact (Kd.C_below HR1_0.out HB.out) | (with_reducible refine Kd.C_alloc ?_ _) | (with_reducible refine Kd.C_drewN ?_ _) | (with_reducible refine Kd.C_drew ?_)));(case side2 => exact HC1_0.out);(case side3 => repeat (first | exact (Kd.C_below HR1_2.out HB.out) | (with_reducible refine Kd.C_alloc ?_ _) | (with_reducible refine Kd.C_drewN ?_ _) | (with_reducible refine Kd.C_drew ?_)));(case side4 => exact HC1_2.out);(case side5 => repeat (first | exact (Kd.V_reads' HO2.out).2.2 | (with_reducible refine Kd.C_alloc ?_ _) | (with_reducible refine Kd.C_drewN ?_ _) | (with_reducible refine Kd.C_drew ?_)));(case side6 => exact (Kd.V_reads' HO2.out).2.1);(case side7 => repeat (first | exact (Kd.V_reads' HO3.out).2.2 | (with_reducible refine Kd.C_alloc ?_ _) | (with_reducible refine Kd.C_drewN ?_ _) | (with_reducible refine Kd.C_drew ?_)));(case side8 => exact (Kd.V_reads' HO3.out).2.1);rintro e w15 ⟨v731,rfl,ho0,hb⟩;refine ⟨_,rfl,?_⟩;have n0_:=Aside0.mk (Kd.V_elder' (vV HO2.out) (Kd.R_base ho0) hb);have n1_:=Aside0.mk (Kd.V_elder' (vV HO3.out) (Kd.R_base ho0) hb);have n2_:=Aside0.mk (Kd.N_elder' (by (with_reducible repeat (first | apply Kd.N_alloc | apply Kd.N_drewN | apply Kd.N_drew));exact HO728.out) (Kd.R_base ho0) hb);have n3_:=Aside0.mk (Kd.R_lower (Kd.R_newM (M:=fun k_ => (w.heap.size≤k_)) ho0 (below_size (vBg HB.out GE725.out)) (fun k_ h_ => h_)) (below_size (vBg HB.out GE725.out)));have n4_:=Aside0.mk (blk_below (g:=gb725) (o:=.cells #[.slice A1_0 l1_0.length c1_0,.int .u64 a1_1,.slice A1_2 l1_2.length c1_2] 59 (0,0)) (vK BK725.out) hb);have n5_:=Aside0.mk (below_step (vBg HB.out GE725.out) hb);clear HO2;clear HO3;clear HO728;clear BK725;clear HB;have HO2:=n0_;have HO3:=n1_;have HO728:=n2_;have HO732:=n3_;have BK725:=n4_;have HB:=n5_;clear n0_ n1_ n2_ n3_ n4_ n5_;(try clear hb);(try clear hb2);(try clear hk);(try clear hi);(try clear ho0)))
  go_ret2
  exact ⟨_,by first | rfl | (simp [errW_none,errW_some] <;> rfl) | (simp [*,errW_none,errW_some] <;> rfl),by (with_reducible repeat (first | apply Kd.R_alloc | apply Kd.R_drewN | apply Kd.R_drew));exact Kd.R_mono HO732.out (fun _ hk => hk.1),by repeat (first | (with_reducible first | exact HB.out | apply below_alloc | apply pw_below_drewN | apply below_drew1 | refine below_set ?_ GE725.out) | exact HB.out)⟩
 ·
  replace c6:=Bool.eq_false_iff.mpr c6
  subst c6
  have H1:(some (([]:List Int),1)) = some (r1,r2):=by rw [if_neg (show ¬ (false = true) by decide)] at H;exact H
  clear H
  have H:=H1
  clear H1
  simp only [Option.some.injEq,Prod.mk.injEq] at H
  obtain ⟨rfl,rfl⟩:=H
  go_enter Try.func42,Try.ntmps42
  go_wp2_with (first | ((with_reducible refine gate_dst (N:=5) rfl ?_);refine box_event ?hg (N:=5) ?hd (cs:=#[.slice A1_0 l1_0.length c1_0,.int .u64 a1_1,.slice A1_2 l1_2.length c1_2]) (t:=59) ?hr ?_;(case hd => rfl);(case hg => rfl);(case hr => first | (go_simp;done) | (go_simp;rfl));intro gb725 hg w16 hbox hb;have n0_:=Aside0.mk (Kd.V_below (Kd.V_elderB (vV HO2.out) gb725 (Nat.le_of_eq hg.symm)) hb);have n1_:=Aside0.mk (Kd.V_below (Kd.V_elderB (vV HO3.out) gb725 (Nat.le_of_eq hg.symm)) hb);have n2_:=Aside0.mk (below_step (vB HB.out) hb);have n3_:=Aside0.mk (hbox);have n4_:=Aside0.mk ((by rw [hg];exact (below_size (vB HB.out)):w.heap.size≤gb725));have n5_:=Aside0.mk ((by rw [hg];exact (below_size (vB HB.out)):w.heap.size≤gb725));clear HO2;clear HO3;clear HB;have HO2:=n0_;have HO3:=n1_;have HB:=n2_;have BK725:=n3_;have GW725:=n4_;have GE725:=n5_;clear n0_ n1_ n2_ n3_ n4_ n5_;clear hb hbox hg;have hcz17_0:w16.cell? ⟨gb725,0,none⟩ = some (.slice A1_0 l1_0.length c1_0):=(blk_cell BK725.out 0).trans rfl;have hcz17_1:w16.cell? ⟨gb725,1,none⟩ = some (.int .u64 a1_1):=(blk_cell BK725.out 1).trans rfl;have hcz17_2:w16.cell? ⟨gb725,2,none⟩ = some (.slice A1_2 l1_2.length c1_2):=(blk_cell BK725.out 2).trans rfl;have hfz17_0:=blk_frozen BK725.out 0;have hfz17_1:=blk_frozen BK725.out 1;have hfz17_2:=blk_frozen BK725.out 2) | ((with_reducible refine gate_dst (N:=13) rfl ?_);refine Kd.N_lit (Kd.slice 37 (Kd.int .u64)) _ 23 ?hg (N':=13) ?hd (xs:=([l2,l3]:List (List Int))) (inner:=[.slice A2 l2.length c2,.slice A3 l3.length c3]) (ok:=(fun k_ => ((P2_ k_∨P3_ k_)∨w.heap.size≤k_)∧k_≠gb725)) (okp:=(fun k_ => ((P2_ k_∨P3_ k_)∨w.heap.size≤k_)∧k_≠gb725)) ?hr ?hp (fun _ hk => hk) ((show ∀ k_,w16.heap.size≤k_→(fun k_ => ((P2_ k_∨P3_ k_)∨w.heap.size≤k_)∧k_≠gb725) k_ from fun k_ hk => ⟨(.inr (Nat.le_trans (below_size (vBg HB.out GE725.out)) hk)),Kd.freshB (g:=gb725) (o:=.cells #[.slice A1_0 l1_0.length c1_0,.int .u64 a1_1,.slice A1_2 l1_2.length c1_2] 59 (0,0)) (vK BK725.out) k_ hk⟩) _ (Nat.le_refl _)) (Below.refl _ _) (Nat.le_refl _) (by simp) ?_;(case hd => rfl);(case hg => rfl);(case hr => first | (go_simp;done) | (go_simp;rfl));(case hp => exact (Reps.one (show Kd.FK (Kd.slice 37 (Kd.int .u64)) _ _ l2 [.slice A2 l2.length c2] from (Kd.FK_slice_mk (Kd.V_reads' (Kd.V_mono (ok':=(fun k_ => ((P2_ k_∨P3_ k_)∨w.heap.size≤k_)∧k_≠gb725)) (HO2.out) (fun k_ hk => ⟨hk.1,hk.2⟩))).2.1 (Kd.V_F (by (with_reducible repeat (first | apply Kd.V_alloc | apply Kd.V_drewN | apply Kd.V_drew));exact (Kd.V_mono (ok':=(fun k_ => ((P2_ k_∨P3_ k_)∨w.heap.size≤k_)∧k_≠gb725)) (HO2.out) (fun k_ hk => ⟨hk.1,hk.2⟩)))))) (Reps.one (show Kd.FK (Kd.slice 37 (Kd.int .u64)) _ _ l3 [.slice A3 l3.length c3] from (Kd.FK_slice_mk (Kd.V_reads' (Kd.V_mono (ok':=(fun k_ => ((P2_ k_∨P3_ k_)∨w.heap.size≤k_)∧k_≠gb725)) (HO3.out) (fun k_ hk => ⟨hk.1,hk.2⟩))).2.1 (Kd.V_F (by (with_reducible repeat (first | apply Kd.V_alloc | apply Kd.V_drewN | apply Kd.V_drew));exact (Kd.V_mono (ok':=(fun k_ => ((P2_ k_∨P3_ k_)∨w.heap.size≤k_)∧k_≠gb725)) (HO3.out) (fun k_ hk => ⟨hk.1,hk.2⟩)))))) (Reps.none _ _))));intro v727 w18 ho19 hb hg_ hnew_;clear hg_ hnew_;(first | rw [← Ny726.out] at ho19 | (simp only [Int.reduceToNat] at ho19;rw [← Ny726.out] at ho19));have n0_:=Aside0.mk (Kd.V_elder' (vV HO2.out) (Kd.N_base ho19) hb);have n1_:=Aside0.mk (Kd.V_elder' (vV HO3.out) (Kd.N_base ho19) hb);have n2_:=Aside0.mk (Kd.N_lower ho19 (below_size (vBg HB.out GE725.out)));have n3_:=Aside0.mk (blk_below (g:=gb725) (o:=.cells #[.slice A1_0 l1_0.length c1_0,.int .u64 a1_1,.slice A1_2 l1_2.length c1_2] 59 (0,0)) (vK BK725.out) hb);have n4_:=Aside0.mk (below_step (vBg HB.out GE725.out) hb);clear HO2;clear HO3;clear BK725;clear HB;have HO2:=n0_;have HO3:=n1_;have HO728:=n2_;have BK725:=n3_;have HB:=n4_;clear n0_ n1_ n2_ n3_ n4_;clear hb ho19;obtain ⟨Ao20,co20,eo20⟩:=Kd.N_slice HO728.out;subst eo20) | ((with_reducible refine gate_callee (f:=81) rfl ?_);refine goesL_ (some 14) rfl rfl Try.func81 (by kernel_rfl) rfl #[.agg #[.slice A1_0 l1_0.length c1_0,.int .u64 a1_1,.slice A1_2 l1_2.length c1_2],.slice Ao20 y726.length co20] rfl vA ?_;(with_reducible refine (mont_members.calls k _ _ l1_0 a1_1 _ _ l1_2 _ _ y726 false _ ?side1 ?side2 ?side3 ?side4 ?side5 ?side6 A5.out).mono ?_);(case side1 => repeat (first | exact (Kd.C_below HR1_0.out HB.out) | (with_reducible refine Kd.C_alloc ?_ _) | (with_reducible refine Kd.C_drewN ?_ _) | (with_reducible refine Kd.C_drew ?_)));(case side2 => exact HC1_0.out);(case side3 => repeat (first | exact (Kd.C_below HR1_2.out HB.out) | (with_reducible refine Kd.C_alloc ?_ _) | (with_reducible refine Kd.C_drewN ?_ _) | (with_reducible refine Kd.C_drew ?_)));(case side4 => exact HC1_2.out);(case side5 => repeat (first | exact (Kd.N_reads' HO728.out).2.2 | (with_reducible refine Kd.C_alloc ?_ _) | (with_reducible refine Kd.C_drewN ?_ _) | (with_reducible refine Kd.C_drew ?_)));(case side6 => exact (Kd.N_reads' HO728.out).2.1);rintro e w21 ⟨rfl,hb⟩;refine ⟨_,rfl,?_⟩;have n0_:=Aside0.mk (Kd.V_below (vV HO2.out) hb);have n1_:=Aside0.mk (Kd.V_below (vV HO3.out) hb);have n2_:=Aside0.mk (Kd.N_below (by (with_reducible repeat (first | apply Kd.N_alloc | apply Kd.N_drewN | apply Kd.N_drew));exact HO728.out) hb);have n3_:=Aside0.mk (blk_below (g:=gb725) (o:=.cells #[.slice A1_0 l1_0.length c1_0,.int .u64 a1_1,.slice A1_2 l1_2.length c1_2] 59 (0,0)) (vK BK725.out) hb);have n4_:=Aside0.mk (below_step (vBg HB.out GE725.out) hb);clear HO2;clear HO3;clear HO728;clear BK725;clear HB;have HO2:=n0_;have HO3:=n1_;have HO728:=n2_;have BK725:=n3_;have HB:=n4_;clear n0_ n1_ n2_ n3_ n4_;(try clear hb);(try clear hb2);(try clear hk);(try clear hi)))
  go_ret2
  exact ⟨_,by first | rfl | (simp [errW_none,errW_some] <;> rfl) | (simp [*,errW_none,errW_some] <;> rfl),by first | exact Kd.R_nil _ _ _ _ _ | exact Kd.N_nil _ _ _ _ _ | exact Kd.V_nil _ _ _ _ _ | exact Kd.Q_nil _ _ _ _ _ | exact Kd.S_nil _ _ _ _ _,by repeat (first | (with_reducible first | exact HB.out | apply below_alloc | apply pw_below_drewN | apply below_drew1 | refine below_set ?_ GE725.out) | exact HB.out)⟩
def sconceref03_MulMod.f (k:Nat) (l0:List Int) (l1:List Int) (l2:List Int):Option (List Int):=(sconceref03_Mul.f k l0 l1).bind fun t733 => ((sconceref03_Mod.f t733 l2).bind fun t736 => (some t736))
theorem sconceref03_MulMod.calls (k:Nat) (A0:Option Addr) (c0:Nat) (l0:List Int) (A1:Option Addr) (c1:Nat) (l1:List Int) (A2:Option Addr) (c2:Nat) (l2:List Int) (r:List Int) (w:World) (hr0:Kd.C (Kd.int .u32) w A0 l0.length l0) (hc0:l0.length≤c0) (hr1:Kd.C (Kd.int .u32) w A1 l1.length l1) (hc1:l1.length≤c1) (hr2:Kd.C (Kd.int .u32) w A2 l2.length l2) (hc2:l2.length≤c2) (h:sconceref03_MulMod.f k l0 l1 l2 = some r) :
  Calls Try.prog 46 #[.slice A0 l0.length c0,.slice A1 l1.length c1,.slice A2 l2.length c2] w fun e w' => ∃ v0_:Value,e = .returned (v0_)∧Kd.V (Kd.int .u32) 78 w' w.heap.size (fun k_ => (w.heap.size≤k_)) v0_ r∧Below w.heap.size w w':=by
 have HR0:=Aside0.mk hr0
 have HC0:=Aside0.mk hc0
 clear hr0 hc0
 have HR1:=Aside0.mk hr1
 have HC1:=Aside0.mk hc1
 clear hr1 hc1
 have HR2:=Aside0.mk hr2
 have HC2:=Aside0.mk hc2
 clear hr2 hc2
 have HB:=Aside0.mk (Below.refl w.heap.size w)
 have H:((sconceref03_Mul.f k l0 l1).bind fun t733 => ((sconceref03_Mod.f t733 l2).bind fun t736 => (some t736))) = some r:=h
 clear h
 replace H:=Option.bind_eq_some_iff.mp H
 obtain ⟨t733,A40,H⟩:=H
 replace H:((sconceref03_Mod.f t733 l2).bind fun t736 => (some t736)) = some r:=H
 have A4:=Aside0.mk A40
 clear A40
 replace H:=Option.bind_eq_some_iff.mp H
 obtain ⟨t736,A50,H⟩:=H
 replace H:(some t736) = some r:=H
 have A5:=Aside0.mk A50
 clear A50
 obtain rfl:=Option.some.inj H
 go_enter Try.func46,Try.ntmps46
 go_wp2_with (first | ((with_reducible refine gate_callee (f:=51) rfl ?_);refine goesL_ (some 9) rfl rfl Try.func51 (by kernel_rfl) rfl #[.slice A0 l0.length c0,.slice A1 l1.length c1] rfl vA ?_;(with_reducible refine (sconceref03_Mul.calls k _ _ l0 _ _ l1 t733 _ ?side1 ?side2 ?side3 ?side4 A4.out).mono ?_);(case side1 => repeat (first | exact HR0.out | (with_reducible refine Kd.C_alloc ?_ _) | (with_reducible refine Kd.C_drewN ?_ _) | (with_reducible refine Kd.C_drew ?_)));(case side2 => exact HC0.out);(case side3 => repeat (first | exact HR1.out | (with_reducible refine Kd.C_alloc ?_ _) | (with_reducible refine Kd.C_drewN ?_ _) | (with_reducible refine Kd.C_drew ?_)));(case side4 => exact HC1.out);rintro e w6 ⟨v734,rfl,ho0,hb⟩;refine ⟨_,rfl,?_⟩;have n0_:=Aside0.mk (Kd.V_lower (Kd.V_mono (ok':=fun k_ => (w.heap.size≤k_)) ho0 (fun k_ hk_ => (Nat.le_trans (below_size (vB HB.out)) hk_))) (below_size (vB HB.out)));have n1_:=Aside0.mk (below_step (vB HB.out) hb);clear HB;have HO735:=n0_;have HB:=n1_;clear n0_ n1_;(try clear hb);(try clear hb2);(try clear hk);(try clear hi);(try clear ho0);obtain ⟨Ao7,co7,eo7⟩:=Kd.V_slice HO735.out;subst eo7) | ((with_reducible refine gate_callee (f:=78) rfl ?_);refine goesL_ (some 11) rfl rfl Try.func78 (by kernel_rfl) rfl #[.slice Ao7 t733.length co7,.slice A2 l2.length c2] rfl vA ?_;(with_reducible refine (sconceref03_Mod.calls (fun k_ => (w.heap.size≤k_)) _ _ t733 _ _ l2 t736 _ ?side1 ?side2 ?side3 A5.out).mono ?_);(case side1 => exact HO735.out);(case side2 => repeat (first | exact (Kd.C_below HR2.out HB.out) | (with_reducible refine Kd.C_alloc ?_ _) | (with_reducible refine Kd.C_drewN ?_ _) | (with_reducible refine Kd.C_drew ?_)));(case side3 => exact HC2.out);rintro e w8 ⟨v737,rfl,ho0,hb⟩;refine ⟨_,rfl,?_⟩;have n0_:=Aside0.mk (Kd.V_below (vV HO735.out) hb);have n1_:=Aside0.mk (Kd.V_lower (Kd.V_mono (ok':=fun k_ => (w.heap.size≤k_)) ho0 (fun k_ hk_ => Or.elim hk_ (fun hs_ => hs_) (fun hn_ => (Nat.le_trans (below_size (vB HB.out)) hn_)))) (below_size (vB HB.out)));have n2_:=Aside0.mk (below_step (vB HB.out) hb);clear HO735;clear HB;have HO735:=n0_;have HO738:=n1_;have HB:=n2_;clear n0_ n1_ n2_;(try clear hb);(try clear hb2);(try clear hk);(try clear hi);(try clear ho0)))
 go_ret
 exact ⟨_,by first | rfl | (simp [errW_none,errW_some] <;> rfl) | (simp [*,errW_none,errW_some] <;> rfl),by (with_reducible repeat (first | apply Kd.V_alloc | apply Kd.V_drewN | apply Kd.V_drew));exact HO738.out,by repeat (first | (with_reducible first | exact HB.out | apply below_alloc | apply pw_below_drewN | apply below_drew1) | exact HB.out)⟩
def sconceref06_Member.f (k:Nat) (l0_0:List Int) (a0_1:Int) (l0_2:List Int) (l1:List Int):Option (Bool):=if (l1.length:Int) = (l0_0.length:Int) then ((sconceref03_Of.f k l1).bind fun t740 => ((sconceref03_Of.f k l0_0).bind fun t743 => ((sconceref03_Cmp.f k t740 t743).bind fun t746 => (some (decide (t746 < 0)))))) else (some false)
def sconceref06_Member.T1:Bool × List (List Nat × List Nat):=(true,[([],[]),([0],[0]),([],[]),([2],[2]),([3],[3]),([1,4],[1,4]),([5],[5]),([6],[6]),([7,6,6],[6,7]),([6],[6]),([9,6],[6,9]),([10,8,6],[6,10]),([8,11,11,6],[6,8,11]),([12,6],[6,12]),([6,13],[6,13]),([14,12,0,1,2,3,4,5,6,7,8,9,10,11,12,13,14],[14])])
def sconceref06_Member.B1:List Nat:=[0,1,0,4,12,31,63,127,255,127,639,2047,4095,8191,16383,32767]
theorem sconceref06_Member.tab1:rtab .any (opsOf Try.f110 1) = sconceref06_Member.T1:=by kernel_rfl
theorem sconceref06_Member.bits1:waitsOk sconceref06_Member.T1.2 sconceref06_Member.B1 = true:=by kernel_rfl
theorem sconceref06_Member.calls (k:Nat) (A0_0:Option Addr) (c0_0:Nat) (l0_0:List Int) (a0_1:Int) (A0_2:Option Addr) (c0_2:Nat) (l0_2:List Int) (A1:Option Addr) (c1:Nat) (l1:List Int) (r:Bool) (w:World) (hr0_0:Kd.C (Kd.int .u64) w A0_0 l0_0.length l0_0) (hc0_0:l0_0.length≤c0_0) (hr0_2:Kd.C (Kd.int .u64) w A0_2 l0_2.length l0_2) (hc0_2:l0_2.length≤c0_2) (hr1:Kd.C (Kd.int .u64) w A1 l1.length l1) (hc1:l1.length≤c1) (h:sconceref06_Member.f k l0_0 a0_1 l0_2 l1 = some r) :
  Calls Try.prog 110 #[.agg #[.slice A0_0 l0_0.length c0_0,.int .u64 a0_1,.slice A0_2 l0_2.length c0_2],.slice A1 l1.length c1] w fun e w' => e = .returned (.bool r)∧Below w.heap.size w w':=by
 have hu59:=Try.underlying59
 have HR0_0:=Aside0.mk hr0_0
 have HC0_0:=Aside0.mk hc0_0
 clear hr0_0 hc0_0
 have HR0_2:=Aside0.mk hr0_2
 have HC0_2:=Aside0.mk hc0_2
 clear hr0_2 hc0_2
 have HR1:=Aside0.mk hr1
 have HC1:=Aside0.mk hc1
 clear hr1 hc1
 have HB:=Aside0.mk (Below.refl w.heap.size w)
 have H:(if (l1.length:Int) = (l0_0.length:Int) then ((sconceref03_Of.f k l1).bind fun t740 => ((sconceref03_Of.f k l0_0).bind fun t743 => ((sconceref03_Cmp.f k t740 t743).bind fun t746 => (some (decide (t746 < 0)))))) else (some false)) = some r:=h
 clear h
 by_cases c3:(l1.length:Int) = (l0_0.length:Int)
 ·
  rw [if_pos c3] at H
  have c3b0:((l1.length:Int) == (l0_0.length:Int)) = true:=beq_iff_eq.mpr c3
  have c3b1:((l1.length:Int) != (l0_0.length:Int)) = false:=bne_eq_false_iff_eq.mpr c3
  have c3b2:(l1.length == l0_0.length) = true:=by first | simpa using c3 | (simp at c3 ⊢;omega)
  clear c3
  replace H:=Option.bind_eq_some_iff.mp H
  obtain ⟨t740,A40,H⟩:=H
  replace H:((sconceref03_Of.f k l0_0).bind fun t743 => ((sconceref03_Cmp.f k t740 t743).bind fun t746 => (some (decide (t746 < 0))))) = some r:=H
  have A4:=Aside0.mk A40
  clear A40
  replace H:=Option.bind_eq_some_iff.mp H
  obtain ⟨t743,A50,H⟩:=H
  replace H:((sconceref03_Cmp.f k t740 t743).bind fun t746 => (some (decide (t746 < 0)))) = some r:=H
  have A5:=Aside0.mk A50
  clear A50
  replace H:=Option.bind_eq_some_iff.mp H
  obtain ⟨t746,A60,H⟩:=H
  replace H:(some (decide (t746 < 0))) = some r:=H
  have A6:=Aside0.mk A60
  clear A60
  obtain rfl:=Option.some.inj H
  go_enter Try.func110,Try.ntmps110
  try go_wp2_with (first | ((with_reducible refine gate_dst (N:=2) rfl ?_);refine box_event ?hg (N:=2) ?hd (cs:=#[.slice A0_0 l0_0.length c0_0,.int .u64 a0_1,.slice A0_2 l0_2.length c0_2]) (t:=59) ?hr ?_;(case hd => rfl);(case hg => rfl);(case hr => first | (go_simp;done) | (go_simp;rfl));intro gb739 hg w7 hbox hb;have n0_:=Aside0.mk (below_step (vB HB.out) hb);have n1_:=Aside0.mk (hbox);have n2_:=Aside0.mk ((by rw [hg];exact (below_size (vB HB.out)):w.heap.size≤gb739));have n3_:=Aside0.mk ((by rw [hg];exact (below_size (vB HB.out)):w.heap.size≤gb739));clear HB;have HB:=n0_;have BK739:=n1_;have GW739:=n2_;have GE739:=n3_;clear n0_ n1_ n2_ n3_;clear hb hbox hg))
  have n0_:=Aside0.mk (blk_drew BK739.out)
  have n1_:=Aside0.mk (below_drew1 HB.out)
  clear BK739
  clear HB
  have BK739:=n0_
  have HB:=n1_
  clear n0_ n1_
  refine start_ (n:=16) (S:=fun w' => w'.cell? ⟨gb739,0,none⟩ = some (.slice A0_0 l0_0.length c0_0)∧w'.cell? ⟨gb739,1,none⟩ = some (.int .u64 a0_1)∧w'.cell? ⟨gb739,2,none⟩ = some (.slice A0_2 l0_2.length c0_2)) (ds:=[]) #[false,false,false,false,false,false,false,false,false,false,false,false,false,false,false,false] (by kernel_rfl) rfl rfl ⟨(blk_cell BK739.out 0).trans rfl,(blk_cell BK739.out 1).trans rfl,(blk_cell BK739.out 2).trans rfl⟩ (fun hHeld => ?_);refine with_tabW sconceref06_Member.tab1 sconceref06_Member.bits1 (fun HT_ HW_ => ?_)
  generalize w7.drew = w8 at BK739 HB hHeld ⊢
  refine pure_ (i:=0) (N:=some 5) (v:=?_) (a':=?_) #[true,false,false,false,false,false,false,false,false,false,false,false,false,false,false,false] rfl rfl (any_of HT_.out (by kernel_rfl)) (fun _ _ _ h => h) (Or.inl ⟨by rfl,?_⟩) ?_ ?_
  rotate_left
  ·
   exact vQ
  rotate_left
  ·
   exact vP
  refine pure_ (i:=1) (N:=some 6) (v:=?_) (a':=?_) #[true,true,false,false,false,false,false,false,false,false,false,false,false,false,false,false] rfl rfl (any_of HT_.out (by kernel_rfl)) (fun _ _ _ h => h) (Or.inl ⟨by rfl,?_⟩) ?_ ?_
  rotate_left
  ·
   exact vQ
  rotate_left
  ·
   exact vP
  refine pure_ (i:=2) (N:=some 7) (v:=?_) (a':=?_) #[true,true,true,false,false,false,false,false,false,false,false,false,false,false,false,false] rfl rfl (any_of HT_.out (by kernel_rfl)) (fun _ _ _ h => h) (Or.inl ⟨by rfl,?_⟩) ?_ ?_
  rotate_left
  ·
   exact vQ
  rotate_left
  ·
   exact vP
  refine take_ (i:=3) (N:=some 8) (v:=?_) (a':=?_) #[true,true,true,true,false,false,false,false,false,false,false,false,false,false,false,false] rfl rfl (take_ofW HT_.out HW_.out (by kernel_rfl)) (fun _ _ _ h => h) (Or.inl ⟨by rfl,?_⟩) hHeld ?_ ?_
  rotate_left
  ·
   rintro w' ⟨s0,s1,s2⟩
   go_simp
   with_reducible rfl
  rotate_left
  ·
   exact vP
  refine pure_ (i:=4) (N:=some 9) (v:=?_) (a':=?_) #[true,true,true,true,true,false,false,false,false,false,false,false,false,false,false,false] rfl rfl (any_of HT_.out (by kernel_rfl)) (fun _ _ _ h => h) (Or.inl ⟨by rfl,?_⟩) ?_ ?_
  rotate_left
  ·
   exact vQ
  rotate_left
  ·
   exact vP
  refine pure_ (i:=5) (N:=some 10) (v:=?_) (a':=?_) #[true,true,true,true,true,true,false,false,false,false,false,false,false,false,false,false] rfl rfl (any_of HT_.out (by kernel_rfl)) (fun _ _ _ h => h) (Or.inl ⟨by rfl,?_⟩) ?_ ?_
  rotate_left
  ·
   exact vQ
  rotate_left
  ·
   exact vP
  refine pure_ (i:=6) (N:=some 11) (v:=?_) (a':=?_) #[true,true,true,true,true,true,true,false,false,false,false,false,false,false,false,false] rfl rfl (any_of HT_.out (by kernel_rfl)) (fun _ _ _ h => h) (Or.inl ⟨by rfl,?_⟩) ?_ ?_
  rotate_left
  ·
   exact vQ
  rotate_left
  ·
   exact vP
  refine pure_ (i:=7) (N:=some 12) (v:=?_) (a':=?_) #[true,true,true,true,true,true,true,true,false,false,false,false,false,false,false,false] rfl rfl (any_of HT_.out (by kernel_rfl)) (fun _ _ _ h => h) (Or.inl ⟨by rfl,?_⟩) ?_ ?_
  rotate_left
  ·
   exact vQ
  rotate_left
  ·
   exact vP
  refine pure_ (i:=9) (N:=some 14) (v:=?_) (a':=?_) #[true,true,true,true,true,true,true,true,false,true,false,false,false,false,false,false] rfl rfl (any_of HT_.out (by kernel_rfl)) (fun _ _ _ h => h) (Or.inl ⟨by rfl,?_⟩) ?_ ?_
  rotate_left
  ·
   exact vQ
  rotate_left
  ·
   exact vP
  refine take_ (i:=10) (N:=some 15) (v:=?_) (a':=?_) #[true,true,true,true,true,true,true,true,false,true,true,false,false,false,false,false] rfl rfl (take_ofW HT_.out HW_.out (by kernel_rfl)) (fun _ _ _ h => h) (Or.inl ⟨by rfl,?_⟩) hHeld ?_ ?_
  rotate_left
  ·
   rintro w' ⟨s0,s1,s2⟩
   go_simp
   with_reducible rfl
  rotate_left
  ·
   exact vP
  refine one_ (i:=8) (N:=some 13) #[true,true,true,true,true,true,true,true,true,true,true,false,false,false,false,false] rfl rfl (one_of HT_.out (by kernel_rfl)) (by decide) (fun K hK => ?_)
  refine goes_ Try.func21 (by kernel_rfl) rfl #[.slice A1 l1.length c1] (by rfl) rfl rfl vA ?_
  with_reducible refine (sconceref03_Of.calls k _ _ l1 t740 _ ?side1 ?side2 A4.out).mono ?_
  (case side1 => repeat (first | exact (Kd.C_below HR1.out HB.out) | (with_reducible refine Kd.C_alloc ?_ _) | (with_reducible refine Kd.C_drewN ?_ _) | (with_reducible refine Kd.C_drew ?_)))
  (case side2 => exact HC1.out)
  rintro e w9 ⟨v741,rfl,ho0,hb⟩
  refine ⟨_,rfl,?_⟩
  have n0_:=Aside0.mk (Kd.V_lower (Kd.V_mono (ok':=fun k_ => k_≠gb739) ho0 (fun k_ hk_ => (Kd.freshB (g:=gb739) (o:=.cells #[.slice A0_0 l0_0.length c0_0,.int .u64 a0_1,.slice A0_2 l0_2.length c0_2] 59 (0,0)) (vK BK739.out) k_ hk_))) (below_size (vBg HB.out GE739.out)))
  have n1_:=Aside0.mk (blk_below (g:=gb739) (o:=.cells #[.slice A0_0 l0_0.length c0_0,.int .u64 a0_1,.slice A0_2 l0_2.length c0_2] 59 (0,0)) (vK BK739.out) hb)
  have n2_:=Aside0.mk (below_step (vBg HB.out GE739.out) hb)
  clear BK739
  clear HB
  have HO742:=n0_
  have BK739:=n1_
  have HB:=n2_
  clear n0_ n1_ n2_
  (try clear hb)
  (try clear hb2)
  (try clear hk)
  (try clear hi)
  (try clear ho0)
  refine hK.out _ _ ⟨(blk_cell BK739.out 0).trans rfl,(blk_cell BK739.out 1).trans rfl,(blk_cell BK739.out 2).trans rfl⟩ (fun hHeld => ?_)
  clear hK K
  refine norm_ (a':=?_) ?_ ?_
  rotate_left
  ·
   show Act.put _ (some 13) _ = _
   simp only [Act.put,List.setIfInBounds_toArray,List.set_cons_zero,List.set_cons_succ,i64_w,i32_w]
   rfl
  refine one_ (i:=11) (N:=some 16) #[true,true,true,true,true,true,true,true,true,true,true,true,false,false,false,false] rfl rfl (one_of HT_.out (by kernel_rfl)) (by decide) (fun K hK => ?_)
  refine goes_ Try.func21 (by kernel_rfl) rfl #[.slice A0_0 l0_0.length c0_0] (by rfl) rfl rfl vA ?_
  with_reducible refine (sconceref03_Of.calls k _ _ l0_0 t743 _ ?side1 ?side2 A5.out).mono ?_
  (case side1 => repeat (first | exact (Kd.C_below HR0_0.out HB.out) | (with_reducible refine Kd.C_alloc ?_ _) | (with_reducible refine Kd.C_drewN ?_ _) | (with_reducible refine Kd.C_drew ?_)))
  (case side2 => exact HC0_0.out)
  rintro e w10 ⟨v744,rfl,ho0,hb⟩
  refine ⟨_,rfl,?_⟩
  have n0_:=Aside0.mk (Kd.V_below (vV HO742.out) hb)
  have n1_:=Aside0.mk (Kd.V_lower (Kd.V_mono (ok':=fun k_ => k_≠gb739) ho0 (fun k_ hk_ => (Kd.freshB (g:=gb739) (o:=.cells #[.slice A0_0 l0_0.length c0_0,.int .u64 a0_1,.slice A0_2 l0_2.length c0_2] 59 (0,0)) (vK BK739.out) k_ hk_))) (below_size (vBg HB.out GE739.out)))
  have n2_:=Aside0.mk (blk_below (g:=gb739) (o:=.cells #[.slice A0_0 l0_0.length c0_0,.int .u64 a0_1,.slice A0_2 l0_2.length c0_2] 59 (0,0)) (vK BK739.out) hb)
  have n3_:=Aside0.mk (below_step (vBg HB.out GE739.out) hb)
  clear HO742
  clear BK739
  clear HB
  have HO742:=n0_
  have HO745:=n1_
  have BK739:=n2_
  have HB:=n3_
  clear n0_ n1_ n2_ n3_
  (try clear hb)
  (try clear hb2)
  (try clear hk)
  (try clear hi)
  (try clear ho0)
  obtain ⟨Ao11,co11,eo11⟩:=Kd.V_slice HO742.out
  (first | subst eo11 | (injection eo11 with f1_ f2_ f3_;have f4_:=f1_.symm;have f5_:=f3_.symm;clear f1_ f2_ f3_;subst f4_;subst f5_))
  obtain ⟨Ao12,co12,eo12⟩:=Kd.V_slice HO745.out
  (first | subst eo12 | (injection eo12 with f1_ f2_ f3_;have f4_:=f1_.symm;have f5_:=f3_.symm;clear f1_ f2_ f3_;subst f4_;subst f5_))
  refine hK.out _ _ ⟨(blk_cell BK739.out 0).trans rfl,(blk_cell BK739.out 1).trans rfl,(blk_cell BK739.out 2).trans rfl⟩ (fun hHeld => ?_)
  clear hK K
  refine norm_ (a':=?_) ?_ ?_
  rotate_left
  ·
   show Act.put _ (some 16) _ = _
   simp only [Act.put,List.setIfInBounds_toArray,List.set_cons_zero,List.set_cons_succ,i64_w,i32_w]
   rfl
  refine one_ (i:=12) (N:=some 17) #[true,true,true,true,true,true,true,true,true,true,true,true,true,false,false,false] rfl rfl (one_of HT_.out (by kernel_rfl)) (by decide) (fun K hK => ?_)
  refine goes_ Try.func24 (by kernel_rfl) rfl #[.slice Ao11 t740.length co11,.slice Ao12 t743.length co12] (by rfl) rfl rfl vA ?_
  with_reducible refine (sconceref03_Cmp.calls k _ _ t740 _ _ t743 t746 _ ?side1 ?side2 ?side3 ?side4 A6.out).mono ?_
  (case side1 => repeat (first | exact (Kd.V_reads' HO742.out).2.2 | (with_reducible refine Kd.C_alloc ?_ _) | (with_reducible refine Kd.C_drewN ?_ _) | (with_reducible refine Kd.C_drew ?_)))
  (case side2 => exact (Kd.V_reads' HO742.out).2.1)
  (case side3 => repeat (first | exact (Kd.V_reads' HO745.out).2.2 | (with_reducible refine Kd.C_alloc ?_ _) | (with_reducible refine Kd.C_drewN ?_ _) | (with_reducible refine Kd.C_drew ?_)))
  (case side4 => exact (Kd.V_reads' HO745.out).2.1)
  rintro e w' ⟨rfl,⟨nd,rfl⟩⟩
  refine ⟨_,rfl,?_⟩
  refine hK.out _ _ ⟨(blk_cell BK739.out 0).trans rfl,(blk_cell BK739.out 1).trans rfl,(blk_cell BK739.out 2).trans rfl⟩ (fun hHeld => ?_)
  clear hK K
  refine norm_ (a':=?_) ?_ ?_
  rotate_left
  ·
   show Act.put _ (some 17) _ = _
   simp only [Act.put,List.setIfInBounds_toArray,List.set_cons_zero,List.set_cons_succ,i64_w,i32_w]
   rfl
  refine pure_ (i:=13) (N:=some 18) (v:=?_) (a':=?_) #[true,true,true,true,true,true,true,true,true,true,true,true,true,true,false,false] rfl rfl (any_of HT_.out (by kernel_rfl)) (fun _ _ _ h => h) (Or.inl ⟨by rfl,?_⟩) ?_ ?_
  rotate_left
  ·
   exact vQ
  rotate_left
  ·
   exact vP
  refine pure_ (i:=14) (N:=some 19) (v:=?_) (a':=?_) #[true,true,true,true,true,true,true,true,true,true,true,true,true,true,true,false] rfl rfl (any_of HT_.out (by kernel_rfl)) (fun _ _ _ h => h) (Or.inl ⟨by rfl,?_⟩) ?_ ?_
  rotate_left
  ·
   exact vQ
  rotate_left
  ·
   exact vP
  refine pure_ (i:=15) (N:=some 4) (v:=?_) (a':=?_) #[true,true,true,true,true,true,true,true,true,true,true,true,true,true,true,true] rfl rfl (any_of HT_.out (by kernel_rfl)) (fun _ _ _ h => h) (Or.inl ⟨by rfl,?_⟩) ?_ ?_
  rotate_left
  ·
   exact vQ
  rotate_left
  ·
   exact vP
  refine done_ (done_of HT_.out (by kernel_rfl)) ?_
  try go_wp2
  go_ret
  exact ⟨by first | rfl | (simp [errW_none,errW_some] <;> rfl) | (simp [*,errW_none,errW_some] <;> rfl),by repeat (first | (with_reducible first | exact HB.out | apply below_alloc | apply pw_below_drewN | apply below_drew1 | refine below_set ?_ GE739.out) | exact HB.out)⟩
 ·
  rw [if_neg c3] at H
  have c3b0:((l1.length:Int) == (l0_0.length:Int)) = false:=beq_eq_false_iff_ne.mpr c3
  have c3b1:((l1.length:Int) != (l0_0.length:Int)) = true:=bne_iff_ne.mpr c3
  have c3b2:(l1.length == l0_0.length) = false:=by first | simpa using c3 | (simp at c3 ⊢;omega)
  obtain rfl:=Option.some.inj H
  go_enter Try.func110,Try.ntmps110
  try go_wp2_with (first | ((with_reducible refine gate_dst (N:=2) rfl ?_);refine box_event ?hg (N:=2) ?hd (cs:=#[.slice A0_0 l0_0.length c0_0,.int .u64 a0_1,.slice A0_2 l0_2.length c0_2]) (t:=59) ?hr ?_;(case hd => rfl);(case hg => rfl);(case hr => first | (go_simp;done) | (go_simp;rfl));intro gb739 hg w13 hbox hb;have n0_:=Aside0.mk (below_step (vB HB.out) hb);have n1_:=Aside0.mk (hbox);have n2_:=Aside0.mk ((by rw [hg];exact (below_size (vB HB.out)):w.heap.size≤gb739));have n3_:=Aside0.mk ((by rw [hg];exact (below_size (vB HB.out)):w.heap.size≤gb739));clear HB;have HB:=n0_;have BK739:=n1_;have GW739:=n2_;have GE739:=n3_;clear n0_ n1_ n2_ n3_;clear hb hbox hg))
  have n0_:=Aside0.mk (blk_drew BK739.out)
  have n1_:=Aside0.mk (below_drew1 HB.out)
  clear BK739
  clear HB
  have BK739:=n0_
  have HB:=n1_
  clear n0_ n1_
  refine start_ (n:=16) (S:=fun w' => w'.cell? ⟨gb739,0,none⟩ = some (.slice A0_0 l0_0.length c0_0)∧w'.cell? ⟨gb739,1,none⟩ = some (.int .u64 a0_1)∧w'.cell? ⟨gb739,2,none⟩ = some (.slice A0_2 l0_2.length c0_2)) (ds:=[]) #[false,false,false,false,false,false,false,false,false,false,false,false,false,false,false,false] (by kernel_rfl) rfl rfl ⟨(blk_cell BK739.out 0).trans rfl,(blk_cell BK739.out 1).trans rfl,(blk_cell BK739.out 2).trans rfl⟩ (fun hHeld => ?_);refine with_tabW sconceref06_Member.tab1 sconceref06_Member.bits1 (fun HT_ HW_ => ?_)
  generalize w13.drew = w14 at BK739 HB hHeld ⊢
  refine pure_ (i:=0) (N:=some 5) (v:=?_) (a':=?_) #[true,false,false,false,false,false,false,false,false,false,false,false,false,false,false,false] rfl rfl (any_of HT_.out (by kernel_rfl)) (fun _ _ _ h => h) (Or.inl ⟨by rfl,?_⟩) ?_ ?_
  rotate_left
  ·
   exact vQ
  rotate_left
  ·
   exact vP
  refine pure_ (i:=1) (N:=some 6) (v:=?_) (a':=?_) #[true,true,false,false,false,false,false,false,false,false,false,false,false,false,false,false] rfl rfl (any_of HT_.out (by kernel_rfl)) (fun _ _ _ h => h) (Or.inl ⟨by rfl,?_⟩) ?_ ?_
  rotate_left
  ·
   exact vQ
  rotate_left
  ·
   exact vP
  refine pure_ (i:=2) (N:=some 7) (v:=?_) (a':=?_) #[true,true,true,false,false,false,false,false,false,false,false,false,false,false,false,false] rfl rfl (any_of HT_.out (by kernel_rfl)) (fun _ _ _ h => h) (Or.inl ⟨by rfl,?_⟩) ?_ ?_
  rotate_left
  ·
   exact vQ
  rotate_left
  ·
   exact vP
  refine take_ (i:=3) (N:=some 8) (v:=?_) (a':=?_) #[true,true,true,true,false,false,false,false,false,false,false,false,false,false,false,false] rfl rfl (take_ofW HT_.out HW_.out (by kernel_rfl)) (fun _ _ _ h => h) (Or.inl ⟨by rfl,?_⟩) hHeld ?_ ?_
  rotate_left
  ·
   rintro w' ⟨s0,s1,s2⟩
   go_simp
   with_reducible rfl
  rotate_left
  ·
   exact vP
  refine pure_ (i:=4) (N:=some 9) (v:=?_) (a':=?_) #[true,true,true,true,true,false,false,false,false,false,false,false,false,false,false,false] rfl rfl (any_of HT_.out (by kernel_rfl)) (fun _ _ _ h => h) (Or.inl ⟨by rfl,?_⟩) ?_ ?_
  rotate_left
  ·
   exact vQ
  rotate_left
  ·
   exact vP
  refine pure_ (i:=5) (N:=some 10) (v:=?_) (a':=?_) #[true,true,true,true,true,true,false,false,false,false,false,false,false,false,false,false] rfl rfl (any_of HT_.out (by kernel_rfl)) (fun _ _ _ h => h) (Or.inl ⟨by rfl,?_⟩) ?_ ?_
  rotate_left
  ·
   exact vQ
  rotate_left
  ·
   exact vP
  refine pure_ (i:=6) (N:=some 11) (v:=?_) (a':=?_) #[true,true,true,true,true,true,true,false,false,false,false,false,false,false,false,false] rfl rfl (any_of HT_.out (by kernel_rfl)) (fun _ _ _ h => h) (Or.inl ⟨by rfl,?_⟩) ?_ ?_
  rotate_left
  ·
   exact vQ
  rotate_left
  ·
   exact vP
  refine pure_ (i:=7) (N:=some 12) (v:=undef) (a':=?_) #[true,true,true,true,true,true,true,true,false,false,false,false,false,false,false,false] rfl rfl (any_of HT_.out (by kernel_rfl)) (fun _ _ _ h => h) (Or.inr ⟨by rfl,rfl⟩) ?_ ?_
  rotate_left
  ·
   exact vP
  refine pure_ (i:=8) (N:=some 13) (v:=undef) (a':=?_) #[true,true,true,true,true,true,true,true,true,false,false,false,false,false,false,false] rfl rfl (any_of HT_.out (by kernel_rfl)) (fun _ _ _ h => h) (Or.inr ⟨by rfl,rfl⟩) ?_ ?_
  rotate_left
  ·
   exact vP
  refine pure_ (i:=9) (N:=some 14) (v:=undef) (a':=?_) #[true,true,true,true,true,true,true,true,true,true,false,false,false,false,false,false] rfl rfl (any_of HT_.out (by kernel_rfl)) (fun _ _ _ h => h) (Or.inr ⟨by rfl,rfl⟩) ?_ ?_
  rotate_left
  ·
   exact vP
  refine pure_ (i:=10) (N:=some 15) (v:=undef) (a':=?_) #[true,true,true,true,true,true,true,true,true,true,true,false,false,false,false,false] rfl rfl (any_of HT_.out (by kernel_rfl)) (fun _ _ _ h => h) (Or.inr ⟨by rfl,rfl⟩) ?_ ?_
  rotate_left
  ·
   exact vP
  refine pure_ (i:=11) (N:=some 16) (v:=undef) (a':=?_) #[true,true,true,true,true,true,true,true,true,true,true,true,false,false,false,false] rfl rfl (any_of HT_.out (by kernel_rfl)) (fun _ _ _ h => h) (Or.inr ⟨by rfl,rfl⟩) ?_ ?_
  rotate_left
  ·
   exact vP
  refine pure_ (i:=12) (N:=some 17) (v:=undef) (a':=?_) #[true,true,true,true,true,true,true,true,true,true,true,true,true,false,false,false] rfl rfl (any_of HT_.out (by kernel_rfl)) (fun _ _ _ h => h) (Or.inr ⟨by rfl,rfl⟩) ?_ ?_
  rotate_left
  ·
   exact vP
  refine pure_ (i:=13) (N:=some 18) (v:=undef) (a':=?_) #[true,true,true,true,true,true,true,true,true,true,true,true,true,true,false,false] rfl rfl (any_of HT_.out (by kernel_rfl)) (fun _ _ _ h => h) (Or.inr ⟨by rfl,rfl⟩) ?_ ?_
  rotate_left
  ·
   exact vP
  refine pure_ (i:=14) (N:=some 19) (v:=?_) (a':=?_) #[true,true,true,true,true,true,true,true,true,true,true,true,true,true,true,false] rfl rfl (any_of HT_.out (by kernel_rfl)) (fun _ _ _ h => h) (Or.inl ⟨by rfl,?_⟩) ?_ ?_
  rotate_left
  ·
   exact vQ
  rotate_left
  ·
   exact vP
  refine pure_ (i:=15) (N:=some 4) (v:=?_) (a':=?_) #[true,true,true,true,true,true,true,true,true,true,true,true,true,true,true,true] rfl rfl (any_of HT_.out (by kernel_rfl)) (fun _ _ _ h => h) (Or.inl ⟨by rfl,?_⟩) ?_ ?_
  rotate_left
  ·
   exact vQ
  rotate_left
  ·
   exact vP
  refine done_ (done_of HT_.out (by kernel_rfl)) ?_
  try go_wp2
  go_ret
  exact ⟨by first | rfl | (simp [errW_none,errW_some] <;> rfl) | (simp [*,errW_none,errW_some] <;> rfl),by repeat (first | (with_reducible first | exact HB.out | apply below_alloc | apply pw_below_drewN | apply below_drew1 | refine below_set ?_ GE739.out) | exact HB.out)⟩
end Go.Proofs.Ytalfniohakahlaa.X
