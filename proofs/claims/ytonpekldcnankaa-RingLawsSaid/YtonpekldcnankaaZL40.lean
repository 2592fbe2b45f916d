/- Texts of the walk and of the plain laws, laid together by a program: X33. -/
import Derived.Test.YtonpekldcnankaaZL38
namespace Go.Proofs.Ytonpekldcnankaa.X
open Go.RowKit Go.Proofs.YtonpekldcnankaaW.PrintWords Go.Proofs.YtonpekldcnankaaW.PrintLast Go.Proofs.YtonpekldcnankaaW.PrintMore
attribute [local go_sem] max2_int min2_int max_two min_two max_three min_three max_four min_four
set_option linter.unusedVariables false
set_option linter.unusedSimpArgs false
def ring_Times.f (k:Nat)  (l1_0:List Int) (a1_1:Int) (l1_2:List Int) (l2:List Int) (l3:List Int):Option (List Int):=(mont_Product.f k l1_0 a1_1 l1_2 l2 l1_2).bind fun t568 => ((mont_Product.f k l1_0 a1_1 l1_2 t568 l3).bind fun t571 => (some t571))
def ring_Times.T1:Bool × List (List Nat × List Nat):=(true,[([],[]),([],[]),([],[]),([],[]),([],[]),([],[]),([5],[5]),([2,3,4,6],[2,3,4,6]),([],[]),([0,1,7,8,7],[0,1,7,8]),([9,9,0,1,2,3,4,5,6,7,8,9],[9])])
def ring_Times.B1:List Nat:=[0,0,0,0,0,0,32,124,0,511,1023]
theorem ring_Times.tab1:rtab .any (opsOf Try.f77 1) = ring_Times.T1:=by kernel_rfl
theorem ring_Times.bits1:waitsOk ring_Times.T1.2 ring_Times.B1 = true:=by kernel_rfl
set_option maxHeartbeats 8000000 in
set_option maxRecDepth 100000 in
theorem ring_Times.calls (k:Nat)  (A1_0:Option Addr) (c1_0:Nat) (l1_0:List Int) (a1_1:Int) (A1_2:Option Addr) (c1_2:Nat) (l1_2:List Int) (A2:Option Addr) (c2:Nat) (l2:List Int) (A3:Option Addr) (c3:Nat) (l3:List Int) (r:List Int) (w:World) (hr1_0:Kd.C (Kd.int .u64) w A1_0 l1_0.length l1_0) (hc1_0:l1_0.length≤c1_0) (hr1_2:Kd.C (Kd.int .u64) w A1_2 l1_2.length l1_2) (hc1_2:l1_2.length≤c1_2) (hr2:Kd.C (Kd.int .u64) w A2 l2.length l2) (hc2:l2.length≤c2) (hr3:Kd.C (Kd.int .u64) w A3 l3.length l3) (hc3:l3.length≤c3) (h:ring_Times.f k l1_0 a1_1 l1_2 l2 l3 = some r) :
  Calls Try.prog 77 #[.pointer none,.agg #[.slice A1_0 l1_0.length c1_0,.int .u64 a1_1,.slice A1_2 l1_2.length c1_2],.slice A2 l2.length c2,.slice A3 l3.length c3] w fun e w' => ∃ v0_:Value,e = .returned (v0_)∧Kd.R (Kd.int .u64) 24 w' w.heap.size (fun _ => True) v0_ r∧Below w.heap.size w w':=by
 have hu26:=Try.underlying26
 have HR1_0:=Aside0.mk hr1_0
 have HC1_0:=Aside0.mk hc1_0
 clear hr1_0 hc1_0
 have HR1_2:=Aside0.mk hr1_2
 have HC1_2:=Aside0.mk hc1_2
 clear hr1_2 hc1_2
 have HR2:=Aside0.mk hr2
 have HC2:=Aside0.mk hc2
 clear hr2 hc2
 have HR3:=Aside0.mk hr3
 have HC3:=Aside0.mk hc3
 clear hr3 hc3
 have HB:=Aside0.mk (Below.refl w.heap.size w)
 have H:((mont_Product.f k l1_0 a1_1 l1_2 l2 l1_2).bind fun t568 => ((mont_Product.f k l1_0 a1_1 l1_2 t568 l3).bind fun t571 => (some t571))) = some r:=h
 clear h
 replace H:=Option.bind_eq_some_iff.mp H
 obtain ⟨t568,A50,H⟩:=H
 replace H:((mont_Product.f k l1_0 a1_1 l1_2 t568 l3).bind fun t571 => (some t571)) = some r:=H
 have A5:=Aside0.mk A50
 clear A50
 replace H:=Option.bind_eq_some_iff.mp H
 obtain ⟨t571,A60,H⟩:=H
 replace H:(some t571) = some r:=H
 have A6:=Aside0.mk A60
 clear A60
 obtain rfl:=Option.some.inj H
 go_enter Try.func77,Try.ntmps77
 try go_wp2_with (first | ((with_reducible refine gate_dst (N:=5) rfl ?_);refine box_event ?hg (N:=5) ?hd (cs:=#[.slice A1_0 l1_0.length c1_0,.int .u64 a1_1,.slice A1_2 l1_2.length c1_2]) (t:=26) ?hr ?_;(case hd => rfl);(case hg => rfl);(case hr => first | (go_simp;done) | (go_simp;rfl));intro gb567 hg w7 hbox hb;have n0_:=Aside0.mk (below_step (vB HB.out) hb);have n1_:=Aside0.mk (hbox);have n2_:=Aside0.mk ((by rw [hg];exact (below_size (vB HB.out)):w.heap.size≤gb567));have n3_:=Aside0.mk ((by rw [hg];exact (below_size (vB HB.out)):w.heap.size≤gb567));clear HB;have HB:=n0_;have BK567:=n1_;have GW567:=n2_;have GE567:=n3_;clear n0_ n1_ n2_ n3_;clear hb hbox hg))
 have n0_:=Aside0.mk (blk_drew BK567.out)
 have n1_:=Aside0.mk (below_drew1 HB.out)
 clear BK567
 clear HB
 have BK567:=n0_
 have HB:=n1_
 clear n0_ n1_
 refine start_ (n:=11) (S:=fun w' => w'.cell? ⟨gb567,0,none⟩ = some (.slice A1_0 l1_0.length c1_0)∧w'.cell? ⟨gb567,1,none⟩ = some (.int .u64 a1_1)∧w'.cell? ⟨gb567,2,none⟩ = some (.slice A1_2 l1_2.length c1_2)) (ds:=[]) #[false,false,false,false,false,false,false,false,false,false,false] (by kernel_rfl) rfl rfl ⟨(blk_cell BK567.out 0).trans rfl,(blk_cell BK567.out 1).trans rfl,(blk_cell BK567.out 2).trans rfl⟩ (fun hHeld => ?_);refine with_tabW ring_Times.tab1 ring_Times.bits1 (fun HT_ HW_ => ?_)
 generalize w7.drew = w8 at BK567 HB hHeld ⊢
 refine pure_ (i:=0) (N:=some 9) (v:=?_) (a':=?_) #[true,false,false,false,false,false,false,false,false,false,false] rfl rfl (any_of HT_.out (by kernel_rfl)) (fun _ _ _ h => h) (Or.inl ⟨by rfl,?_⟩) ?_ ?_
 rotate_left
 ·
  exact vQ
 rotate_left
 ·
  exact vP
 refine pure_ (i:=2) (N:=some 11) (v:=?_) (a':=?_) #[true,false,true,false,false,false,false,false,false,false,false] rfl rfl (any_of HT_.out (by kernel_rfl)) (fun _ _ _ h => h) (Or.inl ⟨by rfl,?_⟩) ?_ ?_
 rotate_left
 ·
  exact vQ
 rotate_left
 ·
  exact vP
 refine pure_ (i:=4) (N:=some 13) (v:=?_) (a':=?_) #[true,false,true,false,true,false,false,false,false,false,false] rfl rfl (any_of HT_.out (by kernel_rfl)) (fun _ _ _ h => h) (Or.inl ⟨by rfl,?_⟩) ?_ ?_
 rotate_left
 ·
  exact vQ
 rotate_left
 ·
  exact vP
 refine pure_ (i:=5) (N:=some 14) (v:=?_) (a':=?_) #[true,false,true,false,true,true,false,false,false,false,false] rfl rfl (any_of HT_.out (by kernel_rfl)) (fun _ _ _ h => h) (Or.inl ⟨by rfl,?_⟩) ?_ ?_
 rotate_left
 ·
  exact vQ
 rotate_left
 ·
  exact vP
 refine pure_ (i:=8) (N:=some 17) (v:=?_) (a':=?_) #[true,false,true,false,true,true,false,false,true,false,false] rfl rfl (any_of HT_.out (by kernel_rfl)) (fun _ _ _ h => h) (Or.inl ⟨by rfl,?_⟩) ?_ ?_
 rotate_left
 ·
  exact vQ
 rotate_left
 ·
  exact vP
 refine take_ (i:=1) (N:=some 10) (v:=?_) (a':=?_) #[true,true,true,false,true,true,false,false,true,false,false] rfl rfl (take_ofW HT_.out HW_.out (by kernel_rfl)) (fun _ _ _ h => h) (Or.inl ⟨by rfl,?_⟩) hHeld ?_ ?_
 rotate_left
 ·
  rintro w' ⟨s0,s1,s2⟩
  go_simp
  with_reducible rfl
 rotate_left
 ·
  exact vP
 refine take_ (i:=3) (N:=some 12) (v:=?_) (a':=?_) #[true,true,true,true,true,true,false,false,true,false,false] rfl rfl (take_ofW HT_.out HW_.out (by kernel_rfl)) (fun _ _ _ h => h) (Or.inl ⟨by rfl,?_⟩) hHeld ?_ ?_
 rotate_left
 ·
  rintro w' ⟨s0,s1,s2⟩
  go_simp
  with_reducible rfl
 rotate_left
 ·
  exact vP
 refine take_ (i:=6) (N:=some 15) (v:=?_) (a':=?_) #[true,true,true,true,true,true,true,false,true,false,false] rfl rfl (take_ofW HT_.out HW_.out (by kernel_rfl)) (fun _ _ _ h => h) (Or.inl ⟨by rfl,?_⟩) hHeld ?_ ?_
 rotate_left
 ·
  rintro w' ⟨s0,s1,s2⟩
  go_simp
  with_reducible rfl
 rotate_left
 ·
  exact vP
 refine one_ (i:=7) (N:=some 16) #[true,true,true,true,true,true,true,true,true,false,false] rfl rfl (one_of HT_.out (by kernel_rfl)) (by decide) (fun K hK => ?_)
 refine goes_ Try.func109 (by kernel_rfl) rfl #[.pointer none,.agg #[.slice A1_0 l1_0.length c1_0,.int .u64 a1_1,.slice A1_2 l1_2.length c1_2],.slice A2 l2.length c2,.slice A1_2 l1_2.length c1_2] (by rfl) rfl rfl vA ?_
 with_reducible refine (mont_Product.calls k  _ _ l1_0 a1_1 _ _ l1_2 _ _ l2 _ _ l1_2 t568 _ ?side1 ?side2 ?side3 ?side4 ?side5 ?side6 ?side7 ?side8 A5.out).mono ?_
 (case side1 => repeat (first | exact (Kd.C_below HR1_0.out HB.out) | (with_reducible refine Kd.C_alloc ?_ _) | (with_reducible refine Kd.C_drewN ?_ _) | (with_reducible refine Kd.C_drew ?_)))
 (case side2 => exact HC1_0.out)
 (case side3 => repeat (first | exact (Kd.C_below HR1_2.out HB.out) | (with_reducible refine Kd.C_alloc ?_ _) | (with_reducible refine Kd.C_drewN ?_ _) | (with_reducible refine Kd.C_drew ?_)))
 (case side4 => exact HC1_2.out)
 (case side5 => repeat (first | exact (Kd.C_below HR2.out HB.out) | (with_reducible refine Kd.C_alloc ?_ _) | (with_reducible refine Kd.C_drewN ?_ _) | (with_reducible refine Kd.C_drew ?_)))
 (case side6 => exact HC2.out)
 (case side7 => repeat (first | exact (Kd.C_below HR1_2.out HB.out) | (with_reducible refine Kd.C_alloc ?_ _) | (with_reducible refine Kd.C_drewN ?_ _) | (with_reducible refine Kd.C_drew ?_)))
 (case side8 => exact HC1_2.out)
 rintro e w9 ⟨v569,rfl,ho0,hb⟩
 refine ⟨_,rfl,?_⟩
 have n0_:=Aside0.mk (Kd.R_lower ho0 (below_size (vBg HB.out GE567.out)))
 have n1_:=Aside0.mk (blk_below (g:=gb567) (o:=.cells #[.slice A1_0 l1_0.length c1_0,.int .u64 a1_1,.slice A1_2 l1_2.length c1_2] 26 (0,0)) (vK BK567.out) hb)
 have n2_:=Aside0.mk (below_step (vBg HB.out GE567.out) hb)
 clear BK567
 clear HB
 have HO570:=n0_
 have BK567:=n1_
 have HB:=n2_
 clear n0_ n1_ n2_
 (try clear hb)
 (try clear hb2)
 (try clear hk)
 (try clear hi)
 (try clear ho0)
 obtain ⟨Ao10,co10,eo10⟩:=Kd.R_slice HO570.out
 (first | subst eo10 | (injection eo10 with f1_ f2_ f3_;have f4_:=f1_.symm;have f5_:=f3_.symm;clear f1_ f2_ f3_;subst f4_;subst f5_))
 refine hK.out _ _ ⟨(blk_cell BK567.out 0).trans rfl,(blk_cell BK567.out 1).trans rfl,(blk_cell BK567.out 2).trans rfl⟩ (fun hHeld => ?_)
 clear hK K
 refine norm_ (a':=?_) ?_ ?_
 rotate_left
 ·
  show Act.put _ (some 16) _ = _
  simp only [Act.put,List.setIfInBounds_toArray,List.set_cons_zero,List.set_cons_succ,i64_w,i32_w]
  rfl
 refine one_ (i:=9) (N:=some 18) #[true,true,true,true,true,true,true,true,true,true,false] rfl rfl (one_of HT_.out (by kernel_rfl)) (by decide) (fun K hK => ?_)
 refine goes_ Try.func109 (by kernel_rfl) rfl #[.pointer none,.agg #[.slice A1_0 l1_0.length c1_0,.int .u64 a1_1,.slice A1_2 l1_2.length c1_2],.slice Ao10 t568.length co10,.slice A3 l3.length c3] (by rfl) rfl rfl vA ?_
 with_reducible refine (mont_Product.calls k  _ _ l1_0 a1_1 _ _ l1_2 _ _ t568 _ _ l3 t571 _ ?side1 ?side2 ?side3 ?side4 ?side5 ?side6 ?side7 ?side8 A6.out).mono ?_
 (case side1 => repeat (first | exact (Kd.C_below HR1_0.out HB.out) | (with_reducible refine Kd.C_alloc ?_ _) | (with_reducible refine Kd.C_drewN ?_ _) | (with_reducible refine Kd.C_drew ?_)))
 (case side2 => exact HC1_0.out)
 (case side3 => repeat (first | exact (Kd.C_below HR1_2.out HB.out) | (with_reducible refine Kd.C_alloc ?_ _) | (with_reducible refine Kd.C_drewN ?_ _) | (with_reducible refine Kd.C_drew ?_)))
 (case side4 => exact HC1_2.out)
 (case side5 => repeat (first | exact (Kd.R_reads' HO570.out).2.2 | (with_reducible refine Kd.C_alloc ?_ _) | (with_reducible refine Kd.C_drewN ?_ _) | (with_reducible refine Kd.C_drew ?_)))
 (case side6 => exact (Kd.R_reads' HO570.out).2.1)
 (case side7 => repeat (first | exact (Kd.C_below HR3.out HB.out) | (with_reducible refine Kd.C_alloc ?_ _) | (with_reducible refine Kd.C_drewN ?_ _) | (with_reducible refine Kd.C_drew ?_)))
 (case side8 => exact HC3.out)
 rintro e w11 ⟨v572,rfl,ho0,hb⟩
 refine ⟨_,rfl,?_⟩
 have n0_:=Aside0.mk (Kd.R_elder' (vR HO570.out) (Kd.R_base ho0) hb)
 have n1_:=Aside0.mk (Kd.R_lower (Kd.R_new' ho0 (Kd.R_lt (vR HO570.out))) (below_size (vBg HB.out GE567.out)))
 have n2_:=Aside0.mk (blk_below (g:=gb567) (o:=.cells #[.slice A1_0 l1_0.length c1_0,.int .u64 a1_1,.slice A1_2 l1_2.length c1_2] 26 (0,0)) (vK BK567.out) hb)
 have n3_:=Aside0.mk (below_step (vBg HB.out GE567.out) hb)
 clear HO570
 clear BK567
 clear HB
 have HO570:=n0_
 have HO573:=n1_
 have BK567:=n2_
 have HB:=n3_
 clear n0_ n1_ n2_ n3_
 (try clear hb)
 (try clear hb2)
 (try clear hk)
 (try clear hi)
 (try clear ho0)
 refine hK.out _ _ ⟨(blk_cell BK567.out 0).trans rfl,(blk_cell BK567.out 1).trans rfl,(blk_cell BK567.out 2).trans rfl⟩ (fun hHeld => ?_)
 clear hK K
 refine norm_ (a':=?_) ?_ ?_
 rotate_left
 ·
  show Act.put _ (some 18) _ = _
  simp only [Act.put,List.setIfInBounds_toArray,List.set_cons_zero,List.set_cons_succ,i64_w,i32_w]
  rfl
 refine pure_ (i:=10) (N:=some 8) (v:=?_) (a':=?_) #[true,true,true,true,true,true,true,true,true,true,true] rfl rfl (any_of HT_.out (by kernel_rfl)) (fun _ _ _ h => h) (Or.inl ⟨by rfl,?_⟩) ?_ ?_
 rotate_left
 ·
  exact vQ
 rotate_left
 ·
  exact vP
 refine done_ (done_of HT_.out (by kernel_rfl)) ?_
 try go_wp2
 go_ret
 exact ⟨_,by first | rfl | (simp [errW_none,errW_some] <;> rfl) | (simp [*,errW_none,errW_some] <;> rfl),by (with_reducible repeat (first | apply Kd.R_alloc | apply Kd.R_drewN | apply Kd.R_drew));exact Kd.R_mono HO573.out (fun _ hk => trivial),by repeat (first | (with_reducible first | exact HB.out | apply below_alloc | apply pw_below_drewN | apply below_drew1 | refine below_set ?_ GE567.out) | exact HB.out)⟩
end Go.Proofs.Ytonpekldcnankaa.X
