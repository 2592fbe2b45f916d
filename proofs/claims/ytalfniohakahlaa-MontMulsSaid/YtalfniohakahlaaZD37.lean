/- Texts of the walk and of the plain laws, laid together by a program: X39, Rm, X40. -/
import Derived.Test.YtalfniohakahlaaZD0
import Derived.Test.YtalfniohakahlaaZD1
import Derived.Test.YtalfniohakahlaaZD2
import Derived.Test.YtalfniohakahlaaZD5
import Derived.Test.YtalfniohakahlaaZD4
import Derived.Test.YtalfniohakahlaaZD7
import Derived.Test.YtalfniohakahlaaZD3
import Derived.Test.YtalfniohakahlaaZD8
import Derived.Test.YtalfniohakahlaaZD10
import Derived.Test.YtalfniohakahlaaZD13
import Derived.Test.YtalfniohakahlaaZD29
import Derived.Test.YtalfniohakahlaaZD31
import Derived.Test.YtalfniohakahlaaZD32
import Derived.Test.YtalfniohakahlaaZD36
set_option maxHeartbeats 8000000
set_option maxRecDepth 100000
section
namespace Go.Proofs.Ytalfniohakahlaa.X
open Go.RowKit Go.Proofs.YtalfniohakahlaaW.PrintWords Go.Proofs.YtalfniohakahlaaW.PrintLast Go.Proofs.YtalfniohakahlaaW.PrintMore
attribute [local go_sem] max2_int min2_int max_two min_two max_three min_three max_four min_four
set_option linter.unusedVariables false
set_option linter.unusedSimpArgs false
def sconceref06_shift.f (k:Nat) (l0_0:List Int) (a0_1:Int) (l0_2:List Int) (a1:Int):Option (List Int):=(sconceref03_Of.f k l0_0).bind fun t799 => ((sconceref03_Small.f k 1).bind fun t802 => ((sconceref03_Shl.f k t802 (wrap64 (64 * (l0_0.length:Int)))).bind fun t805 => ((sconceref03_Mod.f t805 t799).bind fun t808 => (if a1 < 0 then ((sconceref03_Inverse.f k t808 t799).bind fun bt811 => (some bt811.1)) else (some t808)))))
def sconceref06_shift.T2:Bool × List (List Nat × List Nat):=(true,[([],[]),([],[]),([1],[1]),([2],[2]),([3],[3]),([0,4,0],[0,4]),([],[]),([5,6,5],[5,6]),([7,7,0,1,2,3,4,5,6,7],[7])])
def sconceref06_shift.B2:List Nat:=[0,0,2,6,14,31,0,127,255]
theorem sconceref06_shift.tab2:rtab .any (opsOf Try.f84 2) = sconceref06_shift.T2:=by kernel_rfl
theorem sconceref06_shift.bits2:waitsOk sconceref06_shift.T2.2 sconceref06_shift.B2 = true:=by kernel_rfl
theorem sconceref06_shift.calls (k:Nat) (A0_0:Option Addr) (c0_0:Nat) (l0_0:List Int) (a0_1:Int) (A0_2:Option Addr) (c0_2:Nat) (l0_2:List Int) (a1:Int) (r:List Int) (w:World) (hr0_0:Kd.C (Kd.int .u64) w A0_0 l0_0.length l0_0) (hc0_0:l0_0.length≤c0_0) (hr0_2:Kd.C (Kd.int .u64) w A0_2 l0_2.length l0_2) (hc0_2:l0_2.length≤c0_2) (h:sconceref06_shift.f k l0_0 a0_1 l0_2 a1 = some r) :
  Calls Try.prog 84 #[.agg #[.slice A0_0 l0_0.length c0_0,.int .u64 a0_1,.slice A0_2 l0_2.length c0_2],.int .i64 a1] w fun e w' => ∃ v0_:Value,e = .returned (v0_)∧Kd.V (Kd.int .u32) 78 w' w.heap.size (fun k_ => (w.heap.size≤k_)) v0_ r∧Below w.heap.size w w':=by
 have hu59:=Try.underlying59
 have HR0_0:=Aside0.mk hr0_0
 have HC0_0:=Aside0.mk hc0_0
 clear hr0_0 hc0_0
 have HR0_2:=Aside0.mk hr0_2
 have HC0_2:=Aside0.mk hc0_2
 clear hr0_2 hc0_2
 have HB:=Aside0.mk (Below.refl w.heap.size w)
 have H:((sconceref03_Of.f k l0_0).bind fun t799 => ((sconceref03_Small.f k 1).bind fun t802 => ((sconceref03_Shl.f k t802 (wrap64 (64 * (l0_0.length:Int)))).bind fun t805 => ((sconceref03_Mod.f t805 t799).bind fun t808 => (if a1 < 0 then ((sconceref03_Inverse.f k t808 t799).bind fun bt811 => (some bt811.1)) else (some t808)))))) = some r:=h
 clear h
 replace H:=Option.bind_eq_some_iff.mp H
 obtain ⟨t799,A30,H⟩:=H
 replace H:((sconceref03_Small.f k 1).bind fun t802 => ((sconceref03_Shl.f k t802 (wrap64 (64 * (l0_0.length:Int)))).bind fun t805 => ((sconceref03_Mod.f t805 t799).bind fun t808 => (if a1 < 0 then ((sconceref03_Inverse.f k t808 t799).bind fun bt811 => (some bt811.1)) else (some t808))))) = some r:=H
 have A3:=Aside0.mk A30
 clear A30
 replace H:=Option.bind_eq_some_iff.mp H
 obtain ⟨t802,A40,H⟩:=H
 replace H:((sconceref03_Shl.f k t802 (wrap64 (64 * (l0_0.length:Int)))).bind fun t805 => ((sconceref03_Mod.f t805 t799).bind fun t808 => (if a1 < 0 then ((sconceref03_Inverse.f k t808 t799).bind fun bt811 => (some bt811.1)) else (some t808)))) = some r:=H
 have A4:=Aside0.mk A40
 clear A40
 replace H:=Option.bind_eq_some_iff.mp H
 obtain ⟨t805,A50,H⟩:=H
 replace H:((sconceref03_Mod.f t805 t799).bind fun t808 => (if a1 < 0 then ((sconceref03_Inverse.f k t808 t799).bind fun bt811 => (some bt811.1)) else (some t808))) = some r:=H
 have A5:=Aside0.mk A50
 clear A50
 replace H:=Option.bind_eq_some_iff.mp H
 obtain ⟨t808,A60,H⟩:=H
 replace H:(if a1 < 0 then ((sconceref03_Inverse.f k t808 t799).bind fun bt811 => (some bt811.1)) else (some t808)) = some r:=H
 have A6:=Aside0.mk A60
 clear A60
 by_cases c7:a1 < 0
 ·
  rw [if_pos c7] at H
  have c7b0:decide (a1 < 0) = true:=decide_eq_true c7
  clear c7
  replace H:=Option.bind_eq_some_iff.mp H
  obtain ⟨⟨t811,t814⟩,A80,H⟩:=H
  replace H:(some t811) = some r:=H
  have A8:=Aside0.mk A80
  clear A80
  obtain rfl:=Option.some.inj H
  go_enter Try.func84,Try.ntmps84
  try go_wp2_with (first | ((with_reducible refine gate_dst (N:=2) rfl ?_);refine box_event ?hg (N:=2) ?hd (cs:=#[.slice A0_0 l0_0.length c0_0,.int .u64 a0_1,.slice A0_2 l0_2.length c0_2]) (t:=59) ?hr ?_;(case hd => rfl);(case hg => rfl);(case hr => first | (go_simp;done) | (go_simp;rfl));intro gb798 hg w9 hbox hb;have n0_:=Aside0.mk (below_step (vB HB.out) hb);have n1_:=Aside0.mk (hbox);have n2_:=Aside0.mk ((by rw [hg];exact (below_size (vB HB.out)):w.heap.size≤gb798));have n3_:=Aside0.mk ((by rw [hg];exact (below_size (vB HB.out)):w.heap.size≤gb798));clear HB;have HB:=n0_;have BK798:=n1_;have GW798:=n2_;have GE798:=n3_;clear n0_ n1_ n2_ n3_;clear hb hbox hg;have hcz10_0:w9.cell? ⟨gb798,0,none⟩ = some (.slice A0_0 l0_0.length c0_0):=(blk_cell BK798.out 0).trans rfl;have hcz10_1:w9.cell? ⟨gb798,1,none⟩ = some (.int .u64 a0_1):=(blk_cell BK798.out 1).trans rfl;have hcz10_2:w9.cell? ⟨gb798,2,none⟩ = some (.slice A0_2 l0_2.length c0_2):=(blk_cell BK798.out 2).trans rfl;have hfz10_0:=blk_frozen BK798.out 0;have hfz10_1:=blk_frozen BK798.out 1;have hfz10_2:=blk_frozen BK798.out 2) | ((with_reducible refine gate_callee (f:=21) rfl ?_);refine goesL_ (some 9) rfl rfl Try.func21 (by kernel_rfl) rfl #[.slice A0_0 l0_0.length c0_0] rfl vA ?_;(with_reducible refine (sconceref03_Of.calls k _ _ l0_0 t799 _ ?side1 ?side2 A3.out).mono ?_);(case side1 => repeat (first | exact (Kd.C_below HR0_0.out HB.out) | (with_reducible refine Kd.C_alloc ?_ _) | (with_reducible refine Kd.C_drewN ?_ _) | (with_reducible refine Kd.C_drew ?_)));(case side2 => exact HC0_0.out);rintro e w11 ⟨v800,rfl,ho0,hb⟩;refine ⟨_,rfl,?_⟩;have n0_:=Aside0.mk (Kd.V_lower (Kd.V_mono (ok':=fun k_ => (w.heap.size≤k_)∧k_≠gb798) ho0 (fun k_ hk_ => ⟨(Nat.le_trans (below_size (vBg HB.out GE798.out)) hk_),(Kd.freshB (g:=gb798) (o:=.cells #[.slice A0_0 l0_0.length c0_0,.int .u64 a0_1,.slice A0_2 l0_2.length c0_2] 59 (0,0)) (vK BK798.out) k_ hk_)⟩)) (below_size (vBg HB.out GE798.out)));have n1_:=Aside0.mk (blk_below (g:=gb798) (o:=.cells #[.slice A0_0 l0_0.length c0_0,.int .u64 a0_1,.slice A0_2 l0_2.length c0_2] 59 (0,0)) (vK BK798.out) hb);have n2_:=Aside0.mk (below_step (vBg HB.out GE798.out) hb);clear BK798;clear HB;have HO801:=n0_;have BK798:=n1_;have HB:=n2_;clear n0_ n1_ n2_;(try clear hb);(try clear hb2);(try clear hk);(try clear hi);(try clear ho0)))
  have n0_:=Aside0.mk (Kd.V_drew HO801.out)
  have n1_:=Aside0.mk (blk_drew BK798.out)
  have n2_:=Aside0.mk (below_drew1 HB.out)
  clear HO801
  clear BK798
  clear HB
  have HO801:=n0_
  have BK798:=n1_
  have HB:=n2_
  clear n0_ n1_ n2_
  refine start_ (n:=9) (S:=fun w' => w'.cell? ⟨gb798,0,none⟩ = some (.slice A0_0 l0_0.length c0_0)∧w'.cell? ⟨gb798,1,none⟩ = some (.int .u64 a0_1)∧w'.cell? ⟨gb798,2,none⟩ = some (.slice A0_2 l0_2.length c0_2)) (ds:=[]) #[false,false,false,false,false,false,false,false,false] (by kernel_rfl) rfl rfl ⟨(blk_cell BK798.out 0).trans rfl,(blk_cell BK798.out 1).trans rfl,(blk_cell BK798.out 2).trans rfl⟩ (fun hHeld => ?_);refine with_tabW sconceref06_shift.tab2 sconceref06_shift.bits2 (fun HT_ HW_ => ?_)
  generalize w11.drew = w12 at HO801 BK798 HB hHeld ⊢
  refine pure_ (i:=1) (N:=some 11) (v:=?_) (a':=?_) #[false,true,false,false,false,false,false,false,false] rfl rfl (any_of HT_.out (by kernel_rfl)) (fun _ _ _ h => h) (Or.inl ⟨by rfl,?_⟩) ?_ ?_
  rotate_left
  ·
   exact vQ
  rotate_left
  ·
   exact vP
  refine pure_ (i:=6) (N:=some 16) (v:=?_) (a':=?_) #[false,true,false,false,false,false,true,false,false] rfl rfl (any_of HT_.out (by kernel_rfl)) (fun _ _ _ h => h) (Or.inl ⟨by rfl,?_⟩) ?_ ?_
  rotate_left
  ·
   exact vQ
  rotate_left
  ·
   exact vP
  refine take_ (i:=2) (N:=some 12) (v:=?_) (a':=?_) #[false,true,true,false,false,false,true,false,false] rfl rfl (take_ofW HT_.out HW_.out (by kernel_rfl)) (fun _ _ _ h => h) (Or.inl ⟨by rfl,?_⟩) hHeld ?_ ?_
  rotate_left
  ·
   rintro w' ⟨s0,s1,s2⟩
   go_simp
   with_reducible rfl
  rotate_left
  ·
   exact vP
  refine pure_ (i:=3) (N:=some 13) (v:=?_) (a':=?_) #[false,true,true,true,false,false,true,false,false] rfl rfl (any_of HT_.out (by kernel_rfl)) (fun _ _ _ h => h) (Or.inl ⟨by rfl,?_⟩) ?_ ?_
  rotate_left
  ·
   exact vQ
  rotate_left
  ·
   exact vP
  refine pure_ (i:=4) (N:=some 14) (v:=?_) (a':=?_) #[false,true,true,true,true,false,true,false,false] rfl rfl (any_of HT_.out (by kernel_rfl)) (fun _ _ _ h => h) (Or.inl ⟨by rfl,?_⟩) ?_ ?_
  rotate_left
  ·
   exact vQ
  rotate_left
  ·
   exact vP
  refine one_ (i:=0) (N:=some 10) #[true,true,true,true,true,false,true,false,false] rfl rfl (one_of HT_.out (by kernel_rfl)) (by decide) (fun K hK => ?_)
  refine goes_ Try.func55 (by kernel_rfl) rfl #[.int .u64 1] (by rfl) rfl rfl vA ?_
  with_reducible refine (sconceref03_Small.calls k 1 t802 _ A4.out).mono ?_
  rintro e w13 ⟨v803,rfl,ho0,hb⟩
  refine ⟨_,rfl,?_⟩
  have n0_:=Aside0.mk (Kd.V_below (vV HO801.out) hb)
  have n1_:=Aside0.mk (Kd.V_lower (Kd.V_mono (ok':=fun k_ => (w.heap.size≤k_)∧k_≠gb798) ho0 (fun k_ hk_ => ⟨(Nat.le_trans (below_size (vBg HB.out GE798.out)) hk_),(Kd.freshB (g:=gb798) (o:=.cells #[.slice A0_0 l0_0.length c0_0,.int .u64 a0_1,.slice A0_2 l0_2.length c0_2] 59 (0,0)) (vK BK798.out) k_ hk_)⟩)) (below_size (vBg HB.out GE798.out)))
  have n2_:=Aside0.mk (blk_below (g:=gb798) (o:=.cells #[.slice A0_0 l0_0.length c0_0,.int .u64 a0_1,.slice A0_2 l0_2.length c0_2] 59 (0,0)) (vK BK798.out) hb)
  have n3_:=Aside0.mk (below_step (vBg HB.out GE798.out) hb)
  clear HO801
  clear BK798
  clear HB
  have HO801:=n0_
  have HO804:=n1_
  have BK798:=n2_
  have HB:=n3_
  clear n0_ n1_ n2_ n3_
  (try clear hb)
  (try clear hb2)
  (try clear hk)
  (try clear hi)
  (try clear ho0)
  obtain ⟨Ao14,co14,eo14⟩:=Kd.V_slice HO804.out
  (first | subst eo14 | (injection eo14 with f1_ f2_ f3_;have f4_:=f1_.symm;have f5_:=f3_.symm;clear f1_ f2_ f3_;subst f4_;subst f5_))
  refine hK.out _ _ ⟨(blk_cell BK798.out 0).trans rfl,(blk_cell BK798.out 1).trans rfl,(blk_cell BK798.out 2).trans rfl⟩ (fun hHeld => ?_)
  clear hK K
  refine norm_ (a':=?_) ?_ ?_
  rotate_left
  ·
   show Act.put _ (some 10) _ = _
   simp only [Act.put,List.setIfInBounds_toArray,List.set_cons_zero,List.set_cons_succ,i64_w,i32_w]
   rfl
  refine one_ (i:=5) (N:=some 15) #[true,true,true,true,true,true,true,false,false] rfl rfl (one_of HT_.out (by kernel_rfl)) (by decide) (fun K hK => ?_)
  refine goes_ Try.func79 (by kernel_rfl) rfl #[.slice Ao14 t802.length co14,.int .i64 (wrap64 (64 * (l0_0.length:Int)))] (by rfl) rfl rfl vA ?_
  with_reducible refine (sconceref03_Shl.calls k _ _ t802 (wrap64 (64 * (l0_0.length:Int))) t805 _ ?side1 ?side2 A5.out).mono ?_
  (case side1 => repeat (first | exact (Kd.V_reads' HO804.out).2.2 | (with_reducible refine Kd.C_alloc ?_ _) | (with_reducible refine Kd.C_drewN ?_ _) | (with_reducible refine Kd.C_drew ?_)))
  (case side2 => exact (Kd.V_reads' HO804.out).2.1)
  rintro e w15 ⟨v806,rfl,ho0,hb⟩
  refine ⟨_,rfl,?_⟩
  have n0_:=Aside0.mk (Kd.V_below (vV HO801.out) hb)
  have n1_:=Aside0.mk (Kd.V_below (vV HO804.out) hb)
  have n2_:=Aside0.mk (Kd.V_lower (Kd.V_mono (ok':=fun k_ => (w.heap.size≤k_)∧k_≠gb798) ho0 (fun k_ hk_ => ⟨(Nat.le_trans (below_size (vBg HB.out GE798.out)) hk_),(Kd.freshB (g:=gb798) (o:=.cells #[.slice A0_0 l0_0.length c0_0,.int .u64 a0_1,.slice A0_2 l0_2.length c0_2] 59 (0,0)) (vK BK798.out) k_ hk_)⟩)) (below_size (vBg HB.out GE798.out)))
  have n3_:=Aside0.mk (blk_below (g:=gb798) (o:=.cells #[.slice A0_0 l0_0.length c0_0,.int .u64 a0_1,.slice A0_2 l0_2.length c0_2] 59 (0,0)) (vK BK798.out) hb)
  have n4_:=Aside0.mk (below_step (vBg HB.out GE798.out) hb)
  clear HO801
  clear HO804
  clear BK798
  clear HB
  have HO801:=n0_
  have HO804:=n1_
  have HO807:=n2_
  have BK798:=n3_
  have HB:=n4_
  clear n0_ n1_ n2_ n3_ n4_
  (try clear hb)
  (try clear hb2)
  (try clear hk)
  (try clear hi)
  (try clear ho0)
  obtain ⟨Ao16,co16,eo16⟩:=Kd.V_slice HO807.out
  (first | subst eo16 | (injection eo16 with f1_ f2_ f3_;have f4_:=f1_.symm;have f5_:=f3_.symm;clear f1_ f2_ f3_;subst f4_;subst f5_))
  obtain ⟨Ao17,co17,eo17⟩:=Kd.V_slice HO801.out
  (first | subst eo17 | (injection eo17 with f1_ f2_ f3_;have f4_:=f1_.symm;have f5_:=f3_.symm;clear f1_ f2_ f3_;subst f4_;subst f5_))
  refine hK.out _ _ ⟨(blk_cell BK798.out 0).trans rfl,(blk_cell BK798.out 1).trans rfl,(blk_cell BK798.out 2).trans rfl⟩ (fun hHeld => ?_)
  clear hK K
  refine norm_ (a':=?_) ?_ ?_
  rotate_left
  ·
   show Act.put _ (some 15) _ = _
   simp only [Act.put,List.setIfInBounds_toArray,List.set_cons_zero,List.set_cons_succ,i64_w,i32_w]
   rfl
  refine one_ (i:=7) (N:=some 17) #[true,true,true,true,true,true,true,true,false] rfl rfl (one_of HT_.out (by kernel_rfl)) (by decide) (fun K hK => ?_)
  refine goes_ Try.func78 (by kernel_rfl) rfl #[.slice Ao16 t805.length co16,.slice Ao17 t799.length co17] (by rfl) rfl rfl vA ?_
  with_reducible refine (sconceref03_Mod.calls (fun k_ => ((w.heap.size≤k_)∧k_≠gb798)) _ _ t805 _ _ t799 t808 _ ?side1 ?side2 ?side3 A6.out).mono ?_
  (case side1 => exact HO807.out)
  (case side2 => repeat (first | exact (Kd.V_reads' HO801.out).2.2 | (with_reducible refine Kd.C_alloc ?_ _) | (with_reducible refine Kd.C_drewN ?_ _) | (with_reducible refine Kd.C_drew ?_)))
  (case side3 => exact (Kd.V_reads' HO801.out).2.1)
  rintro e w18 ⟨v809,rfl,ho0,hb⟩
  refine ⟨_,rfl,?_⟩
  have n0_:=Aside0.mk (Kd.V_below (vV HO801.out) hb)
  have n1_:=Aside0.mk (Kd.V_below (vV HO804.out) hb)
  have n2_:=Aside0.mk (Kd.V_below (vV HO807.out) hb)
  have n3_:=Aside0.mk (Kd.V_lower (Kd.V_mono (ok':=fun k_ => (w.heap.size≤k_)∧k_≠gb798) ho0 (fun k_ hk_ => ⟨Or.elim hk_ (fun hs_ => hs_.1) (fun hn_ => (Nat.le_trans (below_size (vBg HB.out GE798.out)) hn_)),Or.elim hk_ (fun hs_ => hs_.2) (fun hn_ => (Kd.freshB (g:=gb798) (o:=.cells #[.slice A0_0 l0_0.length c0_0,.int .u64 a0_1,.slice A0_2 l0_2.length c0_2] 59 (0,0)) (vK BK798.out) k_ hn_))⟩)) (below_size (vBg HB.out GE798.out)))
  have n4_:=Aside0.mk (blk_below (g:=gb798) (o:=.cells #[.slice A0_0 l0_0.length c0_0,.int .u64 a0_1,.slice A0_2 l0_2.length c0_2] 59 (0,0)) (vK BK798.out) hb)
  have n5_:=Aside0.mk (below_step (vBg HB.out GE798.out) hb)
  clear HO801
  clear HO804
  clear HO807
  clear BK798
  clear HB
  have HO801:=n0_
  have HO804:=n1_
  have HO807:=n2_
  have HO810:=n3_
  have BK798:=n4_
  have HB:=n5_
  clear n0_ n1_ n2_ n3_ n4_ n5_
  (try clear hb)
  (try clear hb2)
  (try clear hk)
  (try clear hi)
  (try clear ho0)
  refine hK.out _ _ ⟨(blk_cell BK798.out 0).trans rfl,(blk_cell BK798.out 1).trans rfl,(blk_cell BK798.out 2).trans rfl⟩ (fun hHeld => ?_)
  clear hK K
  refine norm_ (a':=?_) ?_ ?_
  rotate_left
  ·
   show Act.put _ (some 17) _ = _
   simp only [Act.put,List.setIfInBounds_toArray,List.set_cons_zero,List.set_cons_succ,i64_w,i32_w]
   rfl
  refine pure_ (i:=8) (N:=some 6) (v:=?_) (a':=?_) #[true,true,true,true,true,true,true,true,true] rfl rfl (any_of HT_.out (by kernel_rfl)) (fun _ _ _ h => h) (Or.inl ⟨by rfl,?_⟩) ?_ ?_
  rotate_left
  ·
   exact vQ
  rotate_left
  ·
   exact vP
  refine done_ (done_of HT_.out (by kernel_rfl)) ?_
  obtain ⟨Ao19,co19,eo19⟩:=Kd.V_slice HO810.out
  subst eo19
  try go_wp2_with (first | ((with_reducible refine gate_callee (f:=111) rfl ?_);refine goesL_ (some 23) rfl rfl Try.func111 (by kernel_rfl) rfl #[.slice Ao19 t808.length co19,.slice Ao17 t799.length co17] rfl vA ?_;(with_reducible refine (sconceref03_Inverse.calls k (fun k_ => ((w.heap.size≤k_)∧k_≠gb798)) _ _ t808 (fun k_ => ((w.heap.size≤k_)∧k_≠gb798)) _ _ t799 t811 t814 _ ?side1 ?side2 A8.out).mono ?_);(case side1 => exact HO810.out);(case side2 => exact HO801.out);rintro e w20 ⟨v812,rfl,ho0,hb⟩;refine ⟨_,rfl,?_⟩;have n0_:=Aside0.mk (Kd.V_below (vV HO801.out) hb);have n1_:=Aside0.mk (Kd.V_below (vV HO804.out) hb);have n2_:=Aside0.mk (Kd.V_below (vV HO807.out) hb);have n3_:=Aside0.mk (Kd.V_below (vV HO810.out) hb);have n4_:=Aside0.mk (Kd.V_lower (Kd.V_mono (ok':=fun k_ => (w.heap.size≤k_)∧k_≠gb798) ho0 (fun k_ hk_ => ⟨Or.elim hk_ (fun hs_ => Or.elim hs_ (fun hs_ => hs_.1) (fun hs_ => hs_.1)) (fun hn_ => (Nat.le_trans (below_size (vBg HB.out GE798.out)) hn_)),Or.elim hk_ (fun hs_ => Or.elim hs_ (fun hs_ => hs_.2) (fun hs_ => hs_.2)) (fun hn_ => (Kd.freshB (g:=gb798) (o:=.cells #[.slice A0_0 l0_0.length c0_0,.int .u64 a0_1,.slice A0_2 l0_2.length c0_2] 59 (0,0)) (vK BK798.out) k_ hn_))⟩)) (below_size (vBg HB.out GE798.out)));have n5_:=Aside0.mk (blk_below (g:=gb798) (o:=.cells #[.slice A0_0 l0_0.length c0_0,.int .u64 a0_1,.slice A0_2 l0_2.length c0_2] 59 (0,0)) (vK BK798.out) hb);have n6_:=Aside0.mk (below_step (vBg HB.out GE798.out) hb);clear HO801;clear HO804;clear HO807;clear HO810;clear BK798;clear HB;have HO801:=n0_;have HO804:=n1_;have HO807:=n2_;have HO810:=n3_;have HO813:=n4_;have BK798:=n5_;have HB:=n6_;clear n0_ n1_ n2_ n3_ n4_ n5_ n6_;(try clear hb);(try clear hb2);(try clear hk);(try clear hi);(try clear ho0)))
  go_ret
  exact ⟨_,by first | rfl | (simp [errW_none,errW_some] <;> rfl) | (simp [*,errW_none,errW_some] <;> rfl),by (with_reducible repeat (first | apply Kd.V_alloc | apply Kd.V_drewN | apply Kd.V_drew));exact Kd.V_mono HO813.out (fun _ hk => hk.1),by repeat (first | (with_reducible first | exact HB.out | apply below_alloc | apply pw_below_drewN | apply below_drew1 | refine below_set ?_ GE798.out) | exact HB.out)⟩
 ·
  rw [if_neg c7] at H
  have c7b0:decide (a1 < 0) = false:=decide_eq_false c7
  clear c7
  obtain rfl:=Option.some.inj H
  go_enter Try.func84,Try.ntmps84
  try go_wp2_with (first | ((with_reducible refine gate_dst (N:=2) rfl ?_);refine box_event ?hg (N:=2) ?hd (cs:=#[.slice A0_0 l0_0.length c0_0,.int .u64 a0_1,.slice A0_2 l0_2.length c0_2]) (t:=59) ?hr ?_;(case hd => rfl);(case hg => rfl);(case hr => first | (go_simp;done) | (go_simp;rfl));intro gb798 hg w21 hbox hb;have n0_:=Aside0.mk (below_step (vB HB.out) hb);have n1_:=Aside0.mk (hbox);have n2_:=Aside0.mk ((by rw [hg];exact (below_size (vB HB.out)):w.heap.size≤gb798));have n3_:=Aside0.mk ((by rw [hg];exact (below_size (vB HB.out)):w.heap.size≤gb798));clear HB;have HB:=n0_;have BK798:=n1_;have GW798:=n2_;have GE798:=n3_;clear n0_ n1_ n2_ n3_;clear hb hbox hg;have hcz22_0:w21.cell? ⟨gb798,0,none⟩ = some (.slice A0_0 l0_0.length c0_0):=(blk_cell BK798.out 0).trans rfl;have hcz22_1:w21.cell? ⟨gb798,1,none⟩ = some (.int .u64 a0_1):=(blk_cell BK798.out 1).trans rfl;have hcz22_2:w21.cell? ⟨gb798,2,none⟩ = some (.slice A0_2 l0_2.length c0_2):=(blk_cell BK798.out 2).trans rfl;have hfz22_0:=blk_frozen BK798.out 0;have hfz22_1:=blk_frozen BK798.out 1;have hfz22_2:=blk_frozen BK798.out 2) | ((with_reducible refine gate_callee (f:=21) rfl ?_);refine goesL_ (some 9) rfl rfl Try.func21 (by kernel_rfl) rfl #[.slice A0_0 l0_0.length c0_0] rfl vA ?_;(with_reducible refine (sconceref03_Of.calls k _ _ l0_0 t799 _ ?side1 ?side2 A3.out).mono ?_);(case side1 => repeat (first | exact (Kd.C_below HR0_0.out HB.out) | (with_reducible refine Kd.C_alloc ?_ _) | (with_reducible refine Kd.C_drewN ?_ _) | (with_reducible refine Kd.C_drew ?_)));(case side2 => exact HC0_0.out);rintro e w23 ⟨v800,rfl,ho0,hb⟩;refine ⟨_,rfl,?_⟩;have n0_:=Aside0.mk (Kd.V_lower (Kd.V_mono (ok':=fun k_ => (w.heap.size≤k_)∧k_≠gb798) ho0 (fun k_ hk_ => ⟨(Nat.le_trans (below_size (vBg HB.out GE798.out)) hk_),(Kd.freshB (g:=gb798) (o:=.cells #[.slice A0_0 l0_0.length c0_0,.int .u64 a0_1,.slice A0_2 l0_2.length c0_2] 59 (0,0)) (vK BK798.out) k_ hk_)⟩)) (below_size (vBg HB.out GE798.out)));have n1_:=Aside0.mk (blk_below (g:=gb798) (o:=.cells #[.slice A0_0 l0_0.length c0_0,.int .u64 a0_1,.slice A0_2 l0_2.length c0_2] 59 (0,0)) (vK BK798.out) hb);have n2_:=Aside0.mk (below_step (vBg HB.out GE798.out) hb);clear BK798;clear HB;have HO801:=n0_;have BK798:=n1_;have HB:=n2_;clear n0_ n1_ n2_;(try clear hb);(try clear hb2);(try clear hk);(try clear hi);(try clear ho0)))
  have n0_:=Aside0.mk (Kd.V_drew HO801.out)
  have n1_:=Aside0.mk (blk_drew BK798.out)
  have n2_:=Aside0.mk (below_drew1 HB.out)
  clear HO801
  clear BK798
  clear HB
  have HO801:=n0_
  have BK798:=n1_
  have HB:=n2_
  clear n0_ n1_ n2_
  refine start_ (n:=9) (S:=fun w' => w'.cell? ⟨gb798,0,none⟩ = some (.slice A0_0 l0_0.length c0_0)∧w'.cell? ⟨gb798,1,none⟩ = some (.int .u64 a0_1)∧w'.cell? ⟨gb798,2,none⟩ = some (.slice A0_2 l0_2.length c0_2)) (ds:=[]) #[false,false,false,false,false,false,false,false,false] (by kernel_rfl) rfl rfl ⟨(blk_cell BK798.out 0).trans rfl,(blk_cell BK798.out 1).trans rfl,(blk_cell BK798.out 2).trans rfl⟩ (fun hHeld => ?_);refine with_tabW sconceref06_shift.tab2 sconceref06_shift.bits2 (fun HT_ HW_ => ?_)
  generalize w23.drew = w24 at HO801 BK798 HB hHeld ⊢
  refine pure_ (i:=1) (N:=some 11) (v:=?_) (a':=?_) #[false,true,false,false,false,false,false,false,false] rfl rfl (any_of HT_.out (by kernel_rfl)) (fun _ _ _ h => h) (Or.inl ⟨by rfl,?_⟩) ?_ ?_
  rotate_left
  ·
   exact vQ
  rotate_left
  ·
   exact vP
  refine pure_ (i:=6) (N:=some 16) (v:=?_) (a':=?_) #[false,true,false,false,false,false,true,false,false] rfl rfl (any_of HT_.out (by kernel_rfl)) (fun _ _ _ h => h) (Or.inl ⟨by rfl,?_⟩) ?_ ?_
  rotate_left
  ·
   exact vQ
  rotate_left
  ·
   exact vP
  refine take_ (i:=2) (N:=some 12) (v:=?_) (a':=?_) #[false,true,true,false,false,false,true,false,false] rfl rfl (take_ofW HT_.out HW_.out (by kernel_rfl)) (fun _ _ _ h => h) (Or.inl ⟨by rfl,?_⟩) hHeld ?_ ?_
  rotate_left
  ·
   rintro w' ⟨s0,s1,s2⟩
   go_simp
   with_reducible rfl
  rotate_left
  ·
   exact vP
  refine pure_ (i:=3) (N:=some 13) (v:=?_) (a':=?_) #[false,true,true,true,false,false,true,false,false] rfl rfl (any_of HT_.out (by kernel_rfl)) (fun _ _ _ h => h) (Or.inl ⟨by rfl,?_⟩) ?_ ?_
  rotate_left
  ·
   exact vQ
  rotate_left
  ·
   exact vP
  refine pure_ (i:=4) (N:=some 14) (v:=?_) (a':=?_) #[false,true,true,true,true,false,true,false,false] rfl rfl (any_of HT_.out (by kernel_rfl)) (fun _ _ _ h => h) (Or.inl ⟨by rfl,?_⟩) ?_ ?_
  rotate_left
  ·
   exact vQ
  rotate_left
  ·
   exact vP
  refine one_ (i:=0) (N:=some 10) #[true,true,true,true,true,false,true,false,false] rfl rfl (one_of HT_.out (by kernel_rfl)) (by decide) (fun K hK => ?_)
  refine goes_ Try.func55 (by kernel_rfl) rfl #[.int .u64 1] (by rfl) rfl rfl vA ?_
  with_reducible refine (sconceref03_Small.calls k 1 t802 _ A4.out).mono ?_
  rintro e w25 ⟨v803,rfl,ho0,hb⟩
  refine ⟨_,rfl,?_⟩
  have n0_:=Aside0.mk (Kd.V_below (vV HO801.out) hb)
  have n1_:=Aside0.mk (Kd.V_lower (Kd.V_mono (ok':=fun k_ => (w.heap.size≤k_)∧k_≠gb798) ho0 (fun k_ hk_ => ⟨(Nat.le_trans (below_size (vBg HB.out GE798.out)) hk_),(Kd.freshB (g:=gb798) (o:=.cells #[.slice A0_0 l0_0.length c0_0,.int .u64 a0_1,.slice A0_2 l0_2.length c0_2] 59 (0,0)) (vK BK798.out) k_ hk_)⟩)) (below_size (vBg HB.out GE798.out)))
  have n2_:=Aside0.mk (blk_below (g:=gb798) (o:=.cells #[.slice A0_0 l0_0.length c0_0,.int .u64 a0_1,.slice A0_2 l0_2.length c0_2] 59 (0,0)) (vK BK798.out) hb)
  have n3_:=Aside0.mk (below_step (vBg HB.out GE798.out) hb)
  clear HO801
  clear BK798
  clear HB
  have HO801:=n0_
  have HO804:=n1_
  have BK798:=n2_
  have HB:=n3_
  clear n0_ n1_ n2_ n3_
  (try clear hb)
  (try clear hb2)
  (try clear hk)
  (try clear hi)
  (try clear ho0)
  obtain ⟨Ao26,co26,eo26⟩:=Kd.V_slice HO804.out
  (first | subst eo26 | (injection eo26 with f1_ f2_ f3_;have f4_:=f1_.symm;have f5_:=f3_.symm;clear f1_ f2_ f3_;subst f4_;subst f5_))
  refine hK.out _ _ ⟨(blk_cell BK798.out 0).trans rfl,(blk_cell BK798.out 1).trans rfl,(blk_cell BK798.out 2).trans rfl⟩ (fun hHeld => ?_)
  clear hK K
  refine norm_ (a':=?_) ?_ ?_
  rotate_left
  ·
   show Act.put _ (some 10) _ = _
   simp only [Act.put,List.setIfInBounds_toArray,List.set_cons_zero,List.set_cons_succ,i64_w,i32_w]
   rfl
  refine one_ (i:=5) (N:=some 15) #[true,true,true,true,true,true,true,false,false] rfl rfl (one_of HT_.out (by kernel_rfl)) (by decide) (fun K hK => ?_)
  refine goes_ Try.func79 (by kernel_rfl) rfl #[.slice Ao26 t802.length co26,.int .i64 (wrap64 (64 * (l0_0.length:Int)))] (by rfl) rfl rfl vA ?_
  with_reducible refine (sconceref03_Shl.calls k _ _ t802 (wrap64 (64 * (l0_0.length:Int))) t805 _ ?side1 ?side2 A5.out).mono ?_
  (case side1 => repeat (first | exact (Kd.V_reads' HO804.out).2.2 | (with_reducible refine Kd.C_alloc ?_ _) | (with_reducible refine Kd.C_drewN ?_ _) | (with_reducible refine Kd.C_drew ?_)))
  (case side2 => exact (Kd.V_reads' HO804.out).2.1)
  rintro e w27 ⟨v806,rfl,ho0,hb⟩
  refine ⟨_,rfl,?_⟩
  have n0_:=Aside0.mk (Kd.V_below (vV HO801.out) hb)
  have n1_:=Aside0.mk (Kd.V_below (vV HO804.out) hb)
  have n2_:=Aside0.mk (Kd.V_lower (Kd.V_mono (ok':=fun k_ => (w.heap.size≤k_)∧k_≠gb798) ho0 (fun k_ hk_ => ⟨(Nat.le_trans (below_size (vBg HB.out GE798.out)) hk_),(Kd.freshB (g:=gb798) (o:=.cells #[.slice A0_0 l0_0.length c0_0,.int .u64 a0_1,.slice A0_2 l0_2.length c0_2] 59 (0,0)) (vK BK798.out) k_ hk_)⟩)) (below_size (vBg HB.out GE798.out)))
  have n3_:=Aside0.mk (blk_below (g:=gb798) (o:=.cells #[.slice A0_0 l0_0.length c0_0,.int .u64 a0_1,.slice A0_2 l0_2.length c0_2] 59 (0,0)) (vK BK798.out) hb)
  have n4_:=Aside0.mk (below_step (vBg HB.out GE798.out) hb)
  clear HO801
  clear HO804
  clear BK798
  clear HB
  have HO801:=n0_
  have HO804:=n1_
  have HO807:=n2_
  have BK798:=n3_
  have HB:=n4_
  clear n0_ n1_ n2_ n3_ n4_
  (try clear hb)
  (try clear hb2)
  (try clear hk)
  (try clear hi)
  (try clear ho0)
  obtain ⟨Ao28,co28,eo28⟩:=Kd.V_slice HO807.out
  (first | subst eo28 | (injection eo28 with f1_ f2_ f3_;have f4_:=f1_.symm;have f5_:=f3_.symm;clear f1_ f2_ f3_;subst f4_;subst f5_))
  obtain ⟨Ao29,co29,eo29⟩:=Kd.V_slice HO801.out
  (first | subst eo29 | (injection eo29 with f1_ f2_ f3_;have f4_:=f1_.symm;have f5_:=f3_.symm;clear f1_ f2_ f3_;subst f4_;subst f5_))
  refine hK.out _ _ ⟨(blk_cell BK798.out 0).trans rfl,(blk_cell BK798.out 1).trans rfl,(blk_cell BK798.out 2).trans rfl⟩ (fun hHeld => ?_)
  clear hK K
  refine norm_ (a':=?_) ?_ ?_
  rotate_left
  ·
   show Act.put _ (some 15) _ = _
   simp only [Act.put,List.setIfInBounds_toArray,List.set_cons_zero,List.set_cons_succ,i64_w,i32_w]
   rfl
  refine one_ (i:=7) (N:=some 17) #[true,true,true,true,true,true,true,true,false] rfl rfl (one_of HT_.out (by kernel_rfl)) (by decide) (fun K hK => ?_)
  refine goes_ Try.func78 (by kernel_rfl) rfl #[.slice Ao28 t805.length co28,.slice Ao29 t799.length co29] (by rfl) rfl rfl vA ?_
  with_reducible refine (sconceref03_Mod.calls (fun k_ => ((w.heap.size≤k_)∧k_≠gb798)) _ _ t805 _ _ t799 t808 _ ?side1 ?side2 ?side3 A6.out).mono ?_
  (case side1 => exact HO807.out)
  (case side2 => repeat (first | exact (Kd.V_reads' HO801.out).2.2 | (with_reducible refine Kd.C_alloc ?_ _) | (with_reducible refine Kd.C_drewN ?_ _) | (with_reducible refine Kd.C_drew ?_)))
  (case side3 => exact (Kd.V_reads' HO801.out).2.1)
  rintro e w30 ⟨v809,rfl,ho0,hb⟩
  refine ⟨_,rfl,?_⟩
  have n0_:=Aside0.mk (Kd.V_below (vV HO801.out) hb)
  have n1_:=Aside0.mk (Kd.V_below (vV HO804.out) hb)
  have n2_:=Aside0.mk (Kd.V_below (vV HO807.out) hb)
  have n3_:=Aside0.mk (Kd.V_lower (Kd.V_mono (ok':=fun k_ => (w.heap.size≤k_)∧k_≠gb798) ho0 (fun k_ hk_ => ⟨Or.elim hk_ (fun hs_ => hs_.1) (fun hn_ => (Nat.le_trans (below_size (vBg HB.out GE798.out)) hn_)),Or.elim hk_ (fun hs_ => hs_.2) (fun hn_ => (Kd.freshB (g:=gb798) (o:=.cells #[.slice A0_0 l0_0.length c0_0,.int .u64 a0_1,.slice A0_2 l0_2.length c0_2] 59 (0,0)) (vK BK798.out) k_ hn_))⟩)) (below_size (vBg HB.out GE798.out)))
  have n4_:=Aside0.mk (blk_below (g:=gb798) (o:=.cells #[.slice A0_0 l0_0.length c0_0,.int .u64 a0_1,.slice A0_2 l0_2.length c0_2] 59 (0,0)) (vK BK798.out) hb)
  have n5_:=Aside0.mk (below_step (vBg HB.out GE798.out) hb)
  clear HO801
  clear HO804
  clear HO807
  clear BK798
  clear HB
  have HO801:=n0_
  have HO804:=n1_
  have HO807:=n2_
  have HO810:=n3_
  have BK798:=n4_
  have HB:=n5_
  clear n0_ n1_ n2_ n3_ n4_ n5_
  (try clear hb)
  (try clear hb2)
  (try clear hk)
  (try clear hi)
  (try clear ho0)
  refine hK.out _ _ ⟨(blk_cell BK798.out 0).trans rfl,(blk_cell BK798.out 1).trans rfl,(blk_cell BK798.out 2).trans rfl⟩ (fun hHeld => ?_)
  clear hK K
  refine norm_ (a':=?_) ?_ ?_
  rotate_left
  ·
   show Act.put _ (some 17) _ = _
   simp only [Act.put,List.setIfInBounds_toArray,List.set_cons_zero,List.set_cons_succ,i64_w,i32_w]
   rfl
  refine pure_ (i:=8) (N:=some 6) (v:=?_) (a':=?_) #[true,true,true,true,true,true,true,true,true] rfl rfl (any_of HT_.out (by kernel_rfl)) (fun _ _ _ h => h) (Or.inl ⟨by rfl,?_⟩) ?_ ?_
  rotate_left
  ·
   exact vQ
  rotate_left
  ·
   exact vP
  refine done_ (done_of HT_.out (by kernel_rfl)) ?_
  try go_wp2
  go_ret
  exact ⟨_,by first | rfl | (simp [errW_none,errW_some] <;> rfl) | (simp [*,errW_none,errW_some] <;> rfl),by (with_reducible repeat (first | apply Kd.V_alloc | apply Kd.V_drewN | apply Kd.V_drew));exact Kd.V_mono HO810.out (fun _ hk => hk.1),by repeat (first | (with_reducible first | exact HB.out | apply below_alloc | apply pw_below_drewN | apply below_drew1 | refine below_set ?_ GE798.out) | exact HB.out)⟩
end Go.Proofs.Ytalfniohakahlaa.X
end
section
namespace Go.Proofs.Ytalfniohakahlaa.X
open Go.RowKit Go.Proofs.YtalfniohakahlaaW.PrintWords Go.Proofs.YtalfniohakahlaaW.PrintLast Go.Proofs.YtalfniohakahlaaW.PrintMore Go.Proofs.Ytalfniohakahlaa.Ma
set_option linter.unusedVariables false
set_option linter.unusedSimpArgs false
theorem C_pair {W:World} {g:Nat} {t:TypeId} {A1 A2:Option Addr} {c1 c2:Nat} {l1 l2:List Int} (h:W.heap[g]? = some (.cells #[.slice A1 l1.length c1,.slice A2 l2.length c2] t (0,0))) (h1:Kd.C (Kd.int .u64) W A1 l1.length l1) (hc1:l1.length≤c1) (h2:Kd.C (Kd.int .u64) W A2 l2.length l2) (hc2:l2.length≤c2) :
    Kd.C (Kd.slice 37 (Kd.int .u64)) W (some ⟨g,0,none⟩) 2 [l1,l2]:=by
  refine ⟨rfl,by decide,fun _ => ⟨_,rfl,fun j p hj => ?_⟩⟩
  match j,hj with
  | 0,hj =>
    obtain rfl:l1 = p:=by simpa using hj
    refine ⟨[.slice A1 l1.length c1],rfl,⟨A1,c1,rfl,hc1,h1⟩,fun i u hi => ?_⟩
    match i,hi with
    | 0,hi =>
      obtain rfl:Value.slice A1 l1.length c1 = u:=by simpa using hi
      exact (blk_cell h 0).trans rfl
    | i + 1,hi => exact absurd hi (by simp)
  | 1,hj =>
    obtain rfl:l2 = p:=by simpa using hj
    refine ⟨[.slice A2 l2.length c2],rfl,⟨A2,c2,rfl,hc2,h2⟩,fun i u hi => ?_⟩
    match i,hi with
    | 0,hi =>
      obtain rfl:Value.slice A2 l2.length c2 = u:=by simpa using hi
      exact (blk_cell h 1).trans rfl
    | i + 1,hi => exact absurd hi (by simp)
  | j + 2,hj => exact absurd hj (by simp)
theorem ref06_Mul_walk (k:Nat) (A0_0:Option Addr) (c0_0:Nat) (l0_0:List Int) (a0_1:Int) (A0_2:Option Addr) (c0_2:Nat) (l0_2:List Int) (A1:Option Addr) (c1:Nat) (l1:List Int) (A2:Option Addr) (c2:Nat) (l2:List Int) (chk:Bool) (x:List Int) (r1:List Int) (r2:Int) (w:World)
    (hr0_0:Kd.C (Kd.int .u64) w A0_0 l0_0.length l0_0) (hc0_0:l0_0.length≤c0_0) (hr0_2:Kd.C (Kd.int .u64) w A0_2 l0_2.length l0_2) (hc0_2:l0_2.length≤c0_2) (hr1:Kd.C (Kd.int .u64) w A1 l1.length l1) (hc1:l1.length≤c1) (hr2:Kd.C (Kd.int .u64) w A2 l2.length l2) (hc2:l2.length≤c2)
    (hC:sconceref06_Check.f k l0_0 a0_1 l0_2 = some chk) (hY:chk = true→sconceref06_shift.f k l0_0 a0_1 l0_2 (-1) = some x∧sconceref06_times.f k l0_0 a0_1 l0_2 x [l1,l2] = some (r1,r2)) (hN:chk = false→r1 = []∧r2 = 1) :
    Calls Try.prog 43 #[.agg #[.slice A0_0 l0_0.length c0_0,.int .u64 a0_1,.slice A0_2 l0_2.length c0_2],.slice A1 l1.length c1,.slice A2 l2.length c2] w fun e w' => ∃ v0_:Value,e = .returned (.tuple #[v0_,.int .i64 r2])∧Kd.R (Kd.int .u64) 37 w' w.heap.size (fun k_ => w.heap.size≤k_) v0_ r1∧Below w.heap.size w w':=by
  have hu59:=Try.underlying59
  have H0:=Aside0.mk hr0_0
  have H02:=Aside0.mk hr0_2
  have H1:=Aside0.mk hr1
  have H2:=Aside0.mk hr2
  have HC:=Aside0.mk hC
  have HY:=Aside0.mk hY
  have HN:=Aside0.mk hN
  clear hr0_0 hr0_2 hr1 hr2 hC hY hN
  go_enter Try.func43,Try.ntmps43
  go_upto_region 1 with ((with_reducible refine gate_dst (N:=3) rfl ?_);refine box_event ?hg (N:=3) ?hd (cs:=#[.slice A0_0 l0_0.length c0_0,.int .u64 a0_1,.slice A0_2 l0_2.length c0_2]) (t:=59) ?hr ?_;(case hd => rfl);(case hg => rfl);(case hr => first | (go_simp;done) | (go_simp;rfl));intro gb hgb w3 hbox hb;have HX:=Aside0.mk hbox;have HB3:=Aside0.mk hb;clear hbox hb)
  subst hgb
  have HZ:=Aside0.mk (fun (W:World) (hW:Below w3.heap.size w3 W) => And.intro ((blk_cell (blk_below HX.out hW) 0).trans rfl) (And.intro ((blk_cell (blk_below HX.out hW) 1).trans rfl) ((blk_cell (blk_below HX.out hW) 2).trans rfl)))
  obtain ⟨z0,z1,z2⟩:=HZ.out _ (Below.refl _ _)
  cases chk with
  | false =>
    obtain ⟨rfl,rfl⟩:=HN.out rfl
    go_wp2_with (go_at_call 41;(with_reducible refine (sconceref06_Check.calls k A0_0 c0_0 l0_0 a0_1 A0_2 c0_2 l0_2 false _ (Kd.C_below H0.out HB3.out) hc0_0 (Kd.C_below H02.out HB3.out) hc0_2 HC.out).mono ?_);rintro e w4 ⟨rfl,hb4⟩;have HB4:=Aside0.mk hb4;clear hb4)
    go_ret2
    exact ⟨_,rfl,Kd.R_nil _ _ _ _ _,below_then HB3.out HB3.out.size HB4.out⟩
  | true =>
    obtain ⟨hS,hT⟩:=HY.out rfl
    have HS:=Aside0.mk hS
    have HT:=Aside0.mk hT
    clear hS hT HY HN
    go_upto_region 3 with (go_at_call 41;(with_reducible refine (sconceref06_Check.calls k A0_0 c0_0 l0_0 a0_1 A0_2 c0_2 l0_2 true _ (Kd.C_below H0.out HB3.out) hc0_0 (Kd.C_below H02.out HB3.out) hc0_2 HC.out).mono ?_);rintro e w4 ⟨rfl,hb4⟩;have HB4:=Aside0.mk hb4;clear hb4)
    clear z0 z1 z2
    obtain ⟨z0,z1,z2⟩:=HZ.out _ HB4.out
    have HA4:=Aside0.mk (below_then HB3.out HB3.out.size HB4.out)
    have HSC:=Aside0.mk (show ∀ W:World,Below w.heap.size w W→Calls Try.prog 84 #[.agg #[.slice A0_0 l0_0.length c0_0,.int .u64 a0_1,.slice A0_2 l0_2.length c0_2],.int .i64 (-1)] W fun e w' => ∃ A c,e = .returned (.slice A x.length c)∧Kd.C (Kd.int .u32) w' A x.length x∧x.length≤c∧Below W.heap.size W w' from by
      intro W hW
      refine (sconceref06_shift.calls k A0_0 c0_0 l0_0 a0_1 A0_2 c0_2 l0_2 (-1) x W (Kd.C_below H0.out hW) hc0_0 (Kd.C_below H02.out hW) hc0_2 HS.out).mono ?_
      rintro e w' ⟨v,rfl,h1,h2⟩
      obtain ⟨A,c,e9⟩:=Kd.V_slice h1
      subst e9
      exact ⟨A,c,rfl,(Kd.V_reads' h1).2.2,(Kd.V_reads' h1).2.1,h2⟩)
    have HTC:=Aside0.mk (show ∀ (W:World) (A:Option Addr) (c:Nat) (g:Nat),Below w.heap.size w W→Kd.C (Kd.int .u32) W A x.length x→x.length≤c→W.heap[g]? = some (.cells #[.slice A1 l1.length c1,.slice A2 l2.length c2] 23 (0,0))→Calls Try.prog 83 #[.agg #[.slice A0_0 l0_0.length c0_0,.int .u64 a0_1,.slice A0_2 l0_2.length c0_2],.slice A x.length c,.slice (some ⟨g,0,none⟩) 2 2] W fun e w' => ∃ A' c',e = .returned (.tuple #[.slice A' r1.length c',.int .i64 r2])∧Kd.R (Kd.int .u64) 37 w' W.heap.size (fun k_ => W.heap.size≤k_) (.slice A' r1.length c') r1∧Below W.heap.size W w' from by
      intro W A c g hW hx hxc hg
      refine (sconceref06_times.calls k A0_0 c0_0 l0_0 a0_1 A0_2 c0_2 l0_2 (fun k_ => k_ < W.heap.size) A c x (some ⟨g,0,none⟩) 2 [l1,l2] r1 r2 W (Kd.C_below H0.out hW) hc0_0 (Kd.C_below H02.out hW) hc0_2 (Kd.V_mk hxc (Kd.C_F (Kd.heap_int .u32) hx)) (C_pair hg (Kd.C_below H1.out hW) hc1 (Kd.C_below H2.out hW) hc2) (Nat.le_refl _) HT.out).mono ?_
      rintro e w' ⟨v,rfl,h1,h2⟩
      obtain ⟨A',c',e9⟩:=Kd.R_slice h1
      subst e9
      exact ⟨A',c',rfl,h1,h2⟩)
    clear HS HT HC
    obtain ⟨y0,y1,y2⟩:=HZ.out (w4.alloc (Obj.cells #[.slice A1 l1.length c1,.slice A2 l2.length c2] 23)) (below_alloc HB4.out (Obj.cells #[.slice A1 l1.length c1,.slice A2 l2.length c2] 23))
    go_region_with (first
      | (go_at_call 84;first
          | ((with_reducible refine (HSC.out w4.drew (Below.drew HA4.out)).mono ?_);rintro e w5 ⟨Ax,cx,rfl,h5,h6,h7⟩;obtain ⟨z0',z1',z2'⟩:=HZ.out _ (below_then (Below.drew HB4.out) (Below.drew HB4.out).size h7);obtain ⟨y0',y1',y2'⟩:=HZ.out (w5.alloc (Obj.cells #[.slice A1 l1.length c1,.slice A2 l2.length c2] 23)) (below_alloc (below_then (Below.drew HB4.out) (Below.drew HB4.out).size h7) (Obj.cells #[.slice A1 l1.length c1,.slice A2 l2.length c2] 23));have H5:=Aside0.mk (And.intro h5 (And.intro h6 h7));clear h5 h6 h7)
          | ((with_reducible refine (HSC.out (w4.alloc (Obj.cells #[.slice A1 l1.length c1,.slice A2 l2.length c2] 23)).drew (Below.drew (below_alloc HA4.out (Obj.cells #[.slice A1 l1.length c1,.slice A2 l2.length c2] 23)))).mono ?_);rintro e w5 ⟨Ax,cx,rfl,h5,h6,h7⟩;obtain ⟨z0',z1',z2'⟩:=HZ.out _ (below_then (Below.drew (below_alloc HB4.out (Obj.cells #[.slice A1 l1.length c1,.slice A2 l2.length c2] 23))) (Below.drew (below_alloc HB4.out (Obj.cells #[.slice A1 l1.length c1,.slice A2 l2.length c2] 23))).size h7);have H5:=Aside0.mk (And.intro h5 (And.intro h6 h7));clear h5 h6 h7))
      | (go_at_call 83;first
          | ((with_reducible refine (HTC.out (w5.alloc (Obj.cells #[.slice A1 l1.length c1,.slice A2 l2.length c2] 23)) Ax cx w5.heap.size (below_alloc (below_then (Below.drew HA4.out) (Below.drew HA4.out).size H5.out.2.2) (Obj.cells #[.slice A1 l1.length c1,.slice A2 l2.length c2] 23)) (Kd.C_below H5.out.1 (below_alloc (Below.refl w5.heap.size w5) (Obj.cells #[.slice A1 l1.length c1,.slice A2 l2.length c2] 23))) H5.out.2.1 (blk_new w5 (Obj.cells #[.slice A1 l1.length c1,.slice A2 l2.length c2] 23))).mono ?_);rintro e w6 ⟨A6,c6,rfl,h8,h9⟩;have H6:=Aside0.mk (And.intro h8 (And.intro (below_alloc (below_then (Below.drew HA4.out) (Below.drew HA4.out).size H5.out.2.2) (Obj.cells #[.slice A1 l1.length c1,.slice A2 l2.length c2] 23)) h9));clear h8 h9)
          | ((with_reducible refine (HTC.out w5 Ax cx w4.heap.size (below_then (Below.drew (below_alloc HA4.out (Obj.cells #[.slice A1 l1.length c1,.slice A2 l2.length c2] 23))) (Below.drew (below_alloc HA4.out (Obj.cells #[.slice A1 l1.length c1,.slice A2 l2.length c2] 23))).size H5.out.2.2) H5.out.1 H5.out.2.1 (blk_below (blk_drew (blk_new w4 (Obj.cells #[.slice A1 l1.length c1,.slice A2 l2.length c2] 23))) H5.out.2.2)).mono ?_);rintro e w6 ⟨A6,c6,rfl,h8,h9⟩;have H6:=Aside0.mk (And.intro h8 (And.intro (below_then (Below.drew (below_alloc HA4.out (Obj.cells #[.slice A1 l1.length c1,.slice A2 l2.length c2] 23))) (Below.drew (below_alloc HA4.out (Obj.cells #[.slice A1 l1.length c1,.slice A2 l2.length c2] 23))).size H5.out.2.2) h9));clear h8 h9)))
    all_goals (go_wp2;go_ret2;exact ⟨_,rfl,Kd.R_mono (Kd.R_lower H6.out.1 H6.out.2.1.size) (fun k hk => Nat.le_trans H6.out.2.1.size hk),below_then H6.out.2.1 H6.out.2.1.size H6.out.2.2⟩)
end Go.Proofs.Ytalfniohakahlaa.X
end
section
namespace Go.Proofs.Ytalfniohakahlaa.X
open Go.RowKit Go.Proofs.YtalfniohakahlaaW.PrintWords Go.Proofs.YtalfniohakahlaaW.PrintLast Go.Proofs.YtalfniohakahlaaW.PrintMore
attribute [local go_sem] max2_int min2_int max_two min_two max_three min_three max_four min_four
set_option linter.unusedVariables false
set_option linter.unusedSimpArgs false
def sconceref06_Mul.f (k:Nat) (l0_0:List Int) (a0_1:Int) (l0_2:List Int) (l1:List Int) (l2:List Int):Option (List Int × Int):=(sconceref06_Check.f k l0_0 a0_1 l0_2).bind fun t => if t = true then (sconceref06_shift.f k l0_0 a0_1 l0_2 (-1)).bind fun x => sconceref06_times.f k l0_0 a0_1 l0_2 x [l1,l2] else some ([],1)
theorem sconceref06_Mul.calls (k:Nat) (A0_0:Option Addr) (c0_0:Nat) (l0_0:List Int) (a0_1:Int) (A0_2:Option Addr) (c0_2:Nat) (l0_2:List Int) (A1:Option Addr) (c1:Nat) (l1:List Int) (A2:Option Addr) (c2:Nat) (l2:List Int) (r1:List Int) (r2:Int) (w:World) (hr0_0:Kd.C (Kd.int .u64) w A0_0 l0_0.length l0_0) (hc0_0:l0_0.length≤c0_0) (hr0_2:Kd.C (Kd.int .u64) w A0_2 l0_2.length l0_2) (hc0_2:l0_2.length≤c0_2) (hr1:Kd.C (Kd.int .u64) w A1 l1.length l1) (hc1:l1.length≤c1) (hr2:Kd.C (Kd.int .u64) w A2 l2.length l2) (hc2:l2.length≤c2) (h:sconceref06_Mul.f k l0_0 a0_1 l0_2 l1 l2 = some (r1,r2)) :
  Calls Try.prog 43 #[.agg #[.slice A0_0 l0_0.length c0_0,.int .u64 a0_1,.slice A0_2 l0_2.length c0_2],.slice A1 l1.length c1,.slice A2 l2.length c2] w fun e w' => ∃ v0_:Value,e = .returned (.tuple #[v0_,.int .i64 r2])∧Kd.R (Kd.int .u64) 37 w' w.heap.size (fun _ => True) v0_ r1∧Below w.heap.size w w':=by
 unfold sconceref06_Mul.f at h
 cases e:sconceref06_Check.f k l0_0 a0_1 l0_2 with
 | none => rw [e] at h;exact absurd h (by simp)
 | some t =>
  rw [e] at h
  simp only [Option.bind_some] at h
  have fin:∀ x:List Int,(t = true→sconceref06_shift.f k l0_0 a0_1 l0_2 (-1) = some x∧sconceref06_times.f k l0_0 a0_1 l0_2 x [l1,l2] = some (r1,r2))→(t = false→r1 = []∧r2 = 1)→Calls Try.prog 43 #[.agg #[.slice A0_0 l0_0.length c0_0,.int .u64 a0_1,.slice A0_2 l0_2.length c0_2],.slice A1 l1.length c1,.slice A2 l2.length c2] w fun e w' => ∃ v0_:Value,e = .returned (.tuple #[v0_,.int .i64 r2])∧Kd.R (Kd.int .u64) 37 w' w.heap.size (fun _ => True) v0_ r1∧Below w.heap.size w w':=by
   intro x h1 h2
   refine (ref06_Mul_walk k A0_0 c0_0 l0_0 a0_1 A0_2 c0_2 l0_2 A1 c1 l1 A2 c2 l2 t x r1 r2 w hr0_0 hc0_0 hr0_2 hc0_2 hr1 hc1 hr2 hc2 e h1 h2).mono ?_
   rintro e w' ⟨v,rfl,g1,g2⟩
   exact ⟨v,rfl,Kd.R_mono g1 (fun _ _ => trivial),g2⟩
  by_cases ht:t = true
  ·
   rw [if_pos ht] at h
   cases e2:sconceref06_shift.f k l0_0 a0_1 l0_2 (-1) with
   | none => rw [e2] at h;exact absurd h (by simp)
   | some x =>
    rw [e2] at h
    exact fin x (fun _ => ⟨e2,h⟩) (fun h0 => absurd (ht.symm.trans h0) (by decide))
  ·
   rw [if_neg ht] at h
   simp only [Option.some.injEq,Prod.mk.injEq] at h
   exact fin [] (fun h0 => absurd h0 ht) (fun _ => ⟨h.1.symm,h.2.symm⟩)
end Go.Proofs.Ytalfniohakahlaa.X
end
