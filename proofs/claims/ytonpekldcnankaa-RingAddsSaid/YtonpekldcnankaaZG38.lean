/- Texts of the walk and of the plain laws, laid together by a program: X30. -/
import Derived.Test.YtonpekldcnankaaZG0
import Derived.Test.YtonpekldcnankaaZG1
import Derived.Test.YtonpekldcnankaaZG2
import Derived.Test.YtonpekldcnankaaZG3
import Derived.Test.YtonpekldcnankaaZG5
import Derived.Test.YtonpekldcnankaaZG7
import Derived.Test.YtonpekldcnankaaZG4
import Derived.Test.YtonpekldcnankaaZG9
import Derived.Test.YtonpekldcnankaaZG33
import Derived.Test.YtonpekldcnankaaZG36
namespace Go.Proofs.Ytonpekldcnankaa.X
open Go.RowKit Go.Proofs.YtonpekldcnankaaW.PrintWords Go.Proofs.YtonpekldcnankaaW.PrintLast Go.Proofs.YtonpekldcnankaaW.PrintMore
attribute [local go_sem] max2_int min2_int max_two min_two max_three min_three max_four min_four
set_option linter.unusedVariables false
set_option linter.unusedSimpArgs false
def sconceref07_Neg.f (k:Nat) (l0_0:List Int) (a0_1:Int) (l0_2:List Int) (l1:List Int):Option (List Int × Int):=if 0≤(l0_0.length:Int) then (if ((l0_0.length:Int):Int).toNat≤35184372088832 then ((sconceref07_Sub.f k l0_0 a0_1 l0_2 (List.replicate ((l0_0.length:Int):Int).toNat 0) l1).bind fun bt483 => (some (bt483.1,bt483.2))) else (none)) else (none)
def sconceref07_Neg.T1:Bool × List (List Nat × List Nat):=(true,[([],[]),([],[]),([1],[1]),([2],[2]),([3,3],[3]),([],[]),([0,4,5],[0,4,5]),([6],[6]),([6],[6]),([7,6,0,1,2,3,4,5,6,7,8],[7]),([8,9,0,1,2,3,4,5,6,7,8,9],[8])])
def sconceref07_Neg.B1:List Nat:=[0,0,2,6,14,0,63,127,127,511,1023]
theorem sconceref07_Neg.tab1:rtab .any (opsOf Try.f28 1) = sconceref07_Neg.T1:=by kernel_rfl
theorem sconceref07_Neg.bits1:waitsOk sconceref07_Neg.T1.2 sconceref07_Neg.B1 = true:=by kernel_rfl
set_option maxHeartbeats 8000000 in
set_option maxRecDepth 100000 in
theorem sconceref07_Neg.calls (k:Nat) (A0_0:Option Addr) (c0_0:Nat) (l0_0:List Int) (a0_1:Int) (A0_2:Option Addr) (c0_2:Nat) (l0_2:List Int) (A1:Option Addr) (c1:Nat) (l1:List Int) (r1:List Int) (r2:Int) (w:World) (hr0_0:Kd.C (Kd.int .u64) w A0_0 l0_0.length l0_0) (hc0_0:l0_0.length≤c0_0) (hr0_2:Kd.C (Kd.int .u64) w A0_2 l0_2.length l0_2) (hc0_2:l0_2.length≤c0_2) (hr1:Kd.C (Kd.int .u64) w A1 l1.length l1) (hc1:l1.length≤c1) (h:sconceref07_Neg.f k l0_0 a0_1 l0_2 l1 = some (r1,r2)) :
  Calls Try.prog 28 #[.agg #[.slice A0_0 l0_0.length c0_0,.int .u64 a0_1,.slice A0_2 l0_2.length c0_2],.slice A1 l1.length c1] w fun e w' => ∃ v0_:Value,e = .returned (.tuple #[v0_,.int .i64 r2])∧Kd.R (Kd.int .u64) 24 w' w.heap.size (fun _ => True) v0_ r1∧Below w.heap.size w w':=by
 have hu26:=Try.underlying26
 have HR0_0:=Aside0.mk hr0_0
 have HC0_0:=Aside0.mk hc0_0
 clear hr0_0 hc0_0
 have HR0_2:=Aside0.mk hr0_2
 have HC0_2:=Aside0.mk hc0_2
 clear hr0_2 hc0_2
 have HR1:=Aside0.mk hr1
 have HC1:=Aside0.mk hc1
 clear hr1 hc1
 have HB:=Aside0.mk (Below.refl w.heap.size w)
 have H:(if 0≤(l0_0.length:Int) then (if ((l0_0.length:Int):Int).toNat≤35184372088832 then ((sconceref07_Sub.f k l0_0 a0_1 l0_2 (List.replicate ((l0_0.length:Int):Int).toNat 0) l1).bind fun bt483 => (some (bt483.1,bt483.2))) else (none)) else (none)) = some (r1,r2):=h
 clear h
 by_cases c3:0≤(l0_0.length:Int)
 ·
  rw [if_pos c3] at H
  have c3b0:=eq_true c3
  have c3b1:decide (0≤(l0_0.length:Int)) = true:=decide_eq_true c3
  clear c3
  by_cases c4:((l0_0.length:Int):Int).toNat≤35184372088832
  ·
   rw [if_pos c4] at H
   have c4b0:=eq_true c4
   have c4b1:decide (((l0_0.length:Int):Int).toNat≤35184372088832) = true:=decide_eq_true c4
   clear c4
   obtain ⟨y480,hy480⟩:∃ y_:List Int,y_ = (List.replicate ((l0_0.length:Int):Int).toNat 0):=⟨_,rfl⟩
   replace H:((sconceref07_Sub.f k l0_0 a0_1 l0_2 y480 l1).bind fun bt483 => (some (bt483.1,bt483.2))) = some (r1,r2):=by first | (rw [hy480];with_reducible exact H) | (have H2_:=(Option.bind_some _ _).symm.trans H;rw [hy480];with_reducible exact H2_) | (have H2_:=(Option.bind_some _ _).symm.trans H;with_reducible exact H2_) | with_reducible exact H | (rw [hy480];exact H) | exact H
   have Ny480:=Aside0.mk hy480
   clear hy480
   replace H:=Option.bind_eq_some_iff.mp H
   obtain ⟨⟨t483,t486⟩,A50,H⟩:=H
   replace H:(some (t483,t486)) = some (r1,r2):=H
   have A5:=Aside0.mk A50
   clear A50
   simp only [Option.some.injEq,Prod.mk.injEq] at H
   obtain ⟨rfl,rfl⟩:=H
   go_enter Try.func28,Try.ntmps28
   try go_wp2_with (first | ((with_reducible refine gate_dst (N:=2) rfl ?_);refine box_event ?hg (N:=2) ?hd (cs:=#[.slice A0_0 l0_0.length c0_0,.int .u64 a0_1,.slice A0_2 l0_2.length c0_2]) (t:=26) ?hr ?_;(case hd => rfl);(case hg => rfl);(case hr => first | (go_simp;done) | (go_simp;rfl));intro gb479 hg w6 hbox hb;have n0_:=Aside0.mk (below_step (vB HB.out) hb);have n1_:=Aside0.mk (hbox);have n2_:=Aside0.mk ((by rw [hg];exact (below_size (vB HB.out)):w.heap.size≤gb479));have n3_:=Aside0.mk ((by rw [hg];exact (below_size (vB HB.out)):w.heap.size≤gb479));clear HB;have HB:=n0_;have BK479:=n1_;have GW479:=n2_;have GE479:=n3_;clear n0_ n1_ n2_ n3_;clear hb hbox hg))
   have n0_:=Aside0.mk (blk_drew BK479.out)
   have n1_:=Aside0.mk (below_drew1 HB.out)
   clear BK479
   clear HB
   have BK479:=n0_
   have HB:=n1_
   clear n0_ n1_
   refine start_ (n:=11) (S:=fun w' => w'.cell? ⟨gb479,0,none⟩ = some (.slice A0_0 l0_0.length c0_0)∧w'.cell? ⟨gb479,1,none⟩ = some (.int .u64 a0_1)∧w'.cell? ⟨gb479,2,none⟩ = some (.slice A0_2 l0_2.length c0_2)) (ds:=[]) #[false,false,false,false,false,false,false,false,false,false,false] (by kernel_rfl) rfl rfl ⟨(blk_cell BK479.out 0).trans rfl,(blk_cell BK479.out 1).trans rfl,(blk_cell BK479.out 2).trans rfl⟩ (fun hHeld => ?_);refine with_tabW sconceref07_Neg.tab1 sconceref07_Neg.bits1 (fun HT_ HW_ => ?_)
   generalize w6.drew = w7 at BK479 HB hHeld ⊢
   refine pure_ (i:=1) (N:=some 7) (v:=?_) (a':=?_) #[false,true,false,false,false,false,false,false,false,false,false] rfl rfl (any_of HT_.out (by kernel_rfl)) (fun _ _ _ h => h) (Or.inl ⟨by rfl,?_⟩) ?_ ?_
   rotate_left
   ·
    exact vQ
   rotate_left
   ·
    exact vP
   refine pure_ (i:=5) (N:=some 11) (v:=?_) (a':=?_) #[false,true,false,false,false,true,false,false,false,false,false] rfl rfl (any_of HT_.out (by kernel_rfl)) (fun _ _ _ h => h) (Or.inl ⟨by rfl,?_⟩) ?_ ?_
   rotate_left
   ·
    exact vQ
   rotate_left
   ·
    exact vP
   refine take_ (i:=0) (N:=some 6) (v:=?_) (a':=?_) #[true,true,false,false,false,true,false,false,false,false,false] rfl rfl (take_ofW HT_.out HW_.out (by kernel_rfl)) (fun _ _ _ h => h) (Or.inl ⟨by rfl,?_⟩) hHeld ?_ ?_
   rotate_left
   ·
    rintro w' ⟨s0,s1,s2⟩
    go_simp
    with_reducible rfl
   rotate_left
   ·
    exact vP
   refine take_ (i:=2) (N:=some 8) (v:=?_) (a':=?_) #[true,true,true,false,false,true,false,false,false,false,false] rfl rfl (take_ofW HT_.out HW_.out (by kernel_rfl)) (fun _ _ _ h => h) (Or.inl ⟨by rfl,?_⟩) hHeld ?_ ?_
   rotate_left
   ·
    rintro w' ⟨s0,s1,s2⟩
    go_simp
    with_reducible rfl
   rotate_left
   ·
    exact vP
   refine pure_ (i:=3) (N:=some 9) (v:=?_) (a':=?_) #[true,true,true,true,false,true,false,false,false,false,false] rfl rfl (any_of HT_.out (by kernel_rfl)) (fun _ _ _ h => h) (Or.inl ⟨by rfl,?_⟩) ?_ ?_
   rotate_left
   ·
    exact vQ
   rotate_left
   ·
    exact vP
   refine one_ (i:=4) (N:=some 10) #[true,true,true,true,true,true,false,false,false,false,false] rfl rfl (one_of HT_.out (by kernel_rfl)) (by decide) (fun K hK => ?_)
   refine Kd.R_make_step (Kd.int .u64) _ 24 (by rfl) (N:=10) rfl 23 _ _ rfl (l0_0.length:Int) rfl rfl Try.underlying23 (.int .u64 0) 8 info24 rfl (by decide) (by omega) 0 (ok:=fun _ => True) (okp:=fun _ => True) rfl (fun _ hk => hk) trivial (of_decide_eq_true vD) (Nat.le_trans (Nat.mul_le_mul_right _ (of_decide_eq_true vD:(l0_0.length:Int).toNat≤35184372088832)) (by omega)) (Below.refl _ _) (Nat.le_refl _) ?_
   intro v481 w8 ho9 hb hg_ hnew_
   clear hg_ hnew_
   (first | rw [← Ny480.out] at ho9 | (simp only [Int.reduceToNat] at ho9;rw [← Ny480.out] at ho9))
   have n0_:=Aside0.mk (Kd.R_lower ho9 (below_size (vBg HB.out GE479.out)))
   have n1_:=Aside0.mk (blk_below (g:=gb479) (o:=.cells #[.slice A0_0 l0_0.length c0_0,.int .u64 a0_1,.slice A0_2 l0_2.length c0_2] 26 (0,0)) (vK BK479.out) hb)
   have n2_:=Aside0.mk (below_step (vBg HB.out GE479.out) hb)
   clear BK479
   clear HB
   have HO482:=n0_
   have BK479:=n1_
   have HB:=n2_
   clear n0_ n1_ n2_
   clear hb ho9
   obtain ⟨Ao10,co10,eo10⟩:=Kd.R_slice HO482.out
   (first | subst eo10 | (injection eo10 with f1_ f2_ f3_;have f4_:=f1_.symm;have f5_:=f3_.symm;clear f1_ f2_ f3_;subst f4_;subst f5_))
   refine hK.out _ _ ⟨(blk_cell BK479.out 0).trans rfl,(blk_cell BK479.out 1).trans rfl,(blk_cell BK479.out 2).trans rfl⟩ (fun hHeld => ?_)
   clear hK K
   refine norm_ (a':=?_) ?_ ?_
   rotate_left
   ·
    show Act.put _ (some 10) _ = _
    simp only [Act.put,List.setIfInBounds_toArray,List.set_cons_zero,List.set_cons_succ,i64_w,i32_w]
    rfl
   refine one_ (i:=6) (N:=some 12) #[true,true,true,true,true,true,true,false,false,false,false] rfl rfl (one_of HT_.out (by kernel_rfl)) (by decide) (fun K hK => ?_)
   refine goes_ Try.func26 (by kernel_rfl) rfl #[.agg #[.slice A0_0 l0_0.length c0_0,.int .u64 a0_1,.slice A0_2 l0_2.length c0_2],.slice Ao10 y480.length co10,.slice A1 l1.length c1] (by rfl) rfl rfl vA ?_
   with_reducible refine (sconceref07_Sub.calls k _ _ l0_0 a0_1 _ _ l0_2 (fun k_ => some k_ = (.slice Ao10 y480.length co10:Value).ownBlock) _ _ y480 (fun k_ => k_ < w.heap.size) _ _ l1 t483 t486 _ ?side1 ?side2 ?side3 ?side4 ?side5 ?side6 A5.out).mono ?_
   (case side1 => repeat (first | exact (Kd.C_below HR0_0.out HB.out) | (with_reducible refine Kd.C_alloc ?_ _) | (with_reducible refine Kd.C_drewN ?_ _) | (with_reducible refine Kd.C_drew ?_)))
   (case side2 => exact HC0_0.out)
   (case side3 => repeat (first | exact (Kd.C_below HR0_2.out HB.out) | (with_reducible refine Kd.C_alloc ?_ _) | (with_reducible refine Kd.C_drewN ?_ _) | (with_reducible refine Kd.C_drew ?_)))
   (case side4 => exact HC0_2.out)
   (case side5 => exact Kd.R_V (Kd.R_tight rfl (Kd.R_types (HO482.out) BK479.out (by decide))))
   (case side6 => exact Kd.V_mk HC1.out (Kd.F_below (Kd.C_F (Kd.heap_int .u64) HR1.out) (vBg HB.out GE479.out)))
   rintro e w11 ⟨v484,rfl,ho0,hb⟩
   refine ⟨_,rfl,?_⟩
   have n0_:=Aside0.mk (Kd.R_elder' (vR HO482.out) (Kd.R_base ho0) hb)
   have n1_:=Aside0.mk (Kd.R_lower (Kd.R_new' (Kd.R_mono (ok':=fun k_ => True) ho0 (fun _ hk_ => trivial)) (Kd.R_lt (vR HO482.out))) (below_size (vBg HB.out GE479.out)))
   have n2_:=Aside0.mk (blk_below (g:=gb479) (o:=.cells #[.slice A0_0 l0_0.length c0_0,.int .u64 a0_1,.slice A0_2 l0_2.length c0_2] 26 (0,0)) (vK BK479.out) hb)
   have n3_:=Aside0.mk (below_step (vBg HB.out GE479.out) hb)
   clear HO482
   clear BK479
   clear HB
   have HO482:=n0_
   have HO485:=n1_
   have BK479:=n2_
   have HB:=n3_
   clear n0_ n1_ n2_ n3_
   (try clear hb)
   (try clear hb2)
   (try clear hk)
   (try clear hi)
   (try clear ho0)
   refine hK.out _ _ ⟨(blk_cell BK479.out 0).trans rfl,(blk_cell BK479.out 1).trans rfl,(blk_cell BK479.out 2).trans rfl⟩ (fun hHeld => ?_)
   clear hK K
   refine norm_ (a':=?_) ?_ ?_
   rotate_left
   ·
    show Act.put _ (some 12) _ = _
    simp only [Act.put,List.setIfInBounds_toArray,List.set_cons_zero,List.set_cons_succ,i64_w,i32_w]
    rfl
   refine pure_ (i:=7) (N:=some 13) (v:=?_) (a':=?_) #[true,true,true,true,true,true,true,true,false,false,false] rfl rfl (any_of HT_.out (by kernel_rfl)) (fun _ _ _ h => h) (Or.inl ⟨by rfl,?_⟩) ?_ ?_
   rotate_left
   ·
    exact vQ
   rotate_left
   ·
    exact vP
   refine pure_ (i:=8) (N:=some 14) (v:=?_) (a':=?_) #[true,true,true,true,true,true,true,true,true,false,false] rfl rfl (any_of HT_.out (by kernel_rfl)) (fun _ _ _ h => h) (Or.inl ⟨by rfl,?_⟩) ?_ ?_
   rotate_left
   ·
    exact vQ
   rotate_left
   ·
    exact vP
   refine pure_ (i:=9) (N:=some 4) (v:=?_) (a':=?_) #[true,true,true,true,true,true,true,true,true,true,false] rfl rfl (any_of HT_.out (by kernel_rfl)) (fun _ _ _ h => h) (Or.inl ⟨by rfl,?_⟩) ?_ ?_
   rotate_left
   ·
    exact vQ
   rotate_left
   ·
    exact vP
   refine pure_ (i:=10) (N:=some 5) (v:=?_) (a':=?_) #[true,true,true,true,true,true,true,true,true,true,true] rfl rfl (any_of HT_.out (by kernel_rfl)) (fun _ _ _ h => h) (Or.inl ⟨by rfl,?_⟩) ?_ ?_
   rotate_left
   ·
    exact vQ
   rotate_left
   ·
    exact vP
   refine done_ (done_of HT_.out (by kernel_rfl)) ?_
   try go_wp2
   go_ret2
   exact ⟨_,by first | rfl | (simp [errW_none,errW_some] <;> rfl) | (simp [*,errW_none,errW_some] <;> rfl),by (with_reducible repeat (first | apply Kd.R_alloc | apply Kd.R_drewN | apply Kd.R_drew));exact Kd.R_mono HO485.out (fun _ hk => trivial),by repeat (first | (with_reducible first | exact HB.out | apply below_alloc | apply pw_below_drewN | apply below_drew1 | refine below_set ?_ GE479.out) | exact HB.out)⟩
  ·
   rw [if_neg c4] at H
   exact absurd H (by simp)
 ·
  rw [if_neg c3] at H
  exact absurd H (by simp)
end Go.Proofs.Ytonpekldcnankaa.X
