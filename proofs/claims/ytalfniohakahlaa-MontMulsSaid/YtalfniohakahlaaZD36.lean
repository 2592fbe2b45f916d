/- Texts of the walk and of the plain laws, laid together by a program: X38. -/
import Derived.Test.YtalfniohakahlaaZD0
import Derived.Test.YtalfniohakahlaaZD1
import Derived.Test.YtalfniohakahlaaZD2
import Derived.Test.YtalfniohakahlaaZD5
import Derived.Test.YtalfniohakahlaaZD4
import Derived.Test.YtalfniohakahlaaZD7
import Derived.Test.YtalfniohakahlaaZD3
import Derived.Test.YtalfniohakahlaaZD8
import Derived.Test.YtalfniohakahlaaZD9
import Derived.Test.YtalfniohakahlaaZD10
import Derived.Test.YtalfniohakahlaaZD19
import Derived.Test.YtalfniohakahlaaZD14
import Derived.Test.YtalfniohakahlaaZD24
import Derived.Test.YtalfniohakahlaaZD29
import Derived.Test.YtalfniohakahlaaZD31
import Derived.Test.YtalfniohakahlaaZD32
import Derived.Test.YtalfniohakahlaaZD34
import Derived.Test.YtalfniohakahlaaZD35
set_option maxHeartbeats 8000000
set_option maxRecDepth 100000
namespace Go.Proofs.Ytalfniohakahlaa.X
open Go.RowKit Go.Proofs.YtalfniohakahlaaW.PrintWords Go.Proofs.YtalfniohakahlaaW.PrintLast Go.Proofs.YtalfniohakahlaaW.PrintMore
attribute [local go_sem] max2_int min2_int max_two min_two max_three min_three max_four min_four
set_option linter.unusedVariables false
set_option linter.unusedSimpArgs false
def sconceref06_times.l0:Nat→List Int→List Int→List (List Int)→Int→Int→List Int→Int→List Int→Option (List Int × Int)
 | 0,_,_,_,_,_,_,_,_ => none
 | k + 1,x1,x8,x17,x18,x19,x748000,x748001,x748002 => if x19 < x18 then (if 0≤x19 then (if x19 < (x17.length:Int) then ((sconceref06_Member.f k x748000 x748001 x748002 (rd_L2 x17 x19)).bind fun t759 => (if t759 = true then ((sconceref03_Of.f k (rd_L2 x17 x19)).bind fun t760 => ((sconceref03_MulMod.f k x1 t760 x8).bind fun t763 => (sconceref06_times.l0 k t763 x8 x17 x18 (wrap64 (x19 + 1)) x748000 x748001 x748002))) else (some (([]:List Int),1)))) else (none)) else (none)) else ((sconceref03_Mod.f x1 x8).bind fun t752 => ((sconceref03_Nat.f k t752 (x748000.length:Int)).bind fun t755 => (some (t755,0))))
def sconceref06_times.f (k:Nat) (l0_0:List Int) (a0_1:Int) (l0_2:List Int) (l1:List Int) (l2:List (List Int)):Option (List Int × Int):=(sconceref06_Check.f k l0_0 a0_1 l0_2).bind fun t748 => (if t748 = true then ((sconceref03_Of.f k l0_0).bind fun t749 => (sconceref06_times.l0 k l1 t749 l2 (l2.length:Int) 0 l0_0 a0_1 l0_2)) else (some (([]:List Int),1)))
def sconceref06_times.T11:Bool × List (List Nat × List Nat):=(true,[([],[]),([],[]),([0,1],[0,1]),([],[]),([3],[3]),([4],[4]),([2,5,2],[2,5]),([6,6,0,1,2,3,4,5,6],[6]),([7,0,1,2,3,4,5,6,7],[])])
def sconceref06_times.B11:List Nat:=[0,0,3,0,8,24,63,127,255]
theorem sconceref06_times.tab11:rtab .any (opsOf Try.f83 11) = sconceref06_times.T11:=by kernel_rfl
theorem sconceref06_times.bits11:waitsOk sconceref06_times.T11.2 sconceref06_times.B11 = true:=by kernel_rfl
theorem sconceref06_times.calls (k:Nat) (A0_0:Option Addr) (c0_0:Nat) (l0_0:List Int) (a0_1:Int) (A0_2:Option Addr) (c0_2:Nat) (l0_2:List Int) (P1_:Nat→Prop) (A1:Option Addr) (c1:Nat) (l1:List Int) (A2:Option Addr) (c2:Nat) (l2:List (List Int)) (r1:List Int) (r2:Int) (w:World) (hr0_0:Kd.C (Kd.int .u64) w A0_0 l0_0.length l0_0) (hc0_0:l0_0.length≤c0_0) (hr0_2:Kd.C (Kd.int .u64) w A0_2 l0_2.length l0_2) (hc0_2:l0_2.length≤c0_2) (hs1:Kd.V (Kd.int .u32) 78 w w.heap.size (fun k_ => P1_ k_) (.slice A1 l1.length c1) l1) (hr2:Kd.C (Kd.slice 37 (Kd.int .u64)) w A2 l2.length l2) (hc2:l2.length≤c2) (h:sconceref06_times.f k l0_0 a0_1 l0_2 l1 l2 = some (r1,r2)) :
  Calls Try.prog 83 #[.agg #[.slice A0_0 l0_0.length c0_0,.int .u64 a0_1,.slice A0_2 l0_2.length c0_2],.slice A1 l1.length c1,.slice A2 l2.length c2] w fun e w' => ∃ v0_:Value,e = .returned (.tuple #[v0_,.int .i64 r2])∧Kd.R (Kd.int .u64) 37 w' w.heap.size (fun k_ => (w.heap.size≤k_)) v0_ r1∧Below w.heap.size w w':=by
 have hu59:=Try.underlying59
 have HR0_0:=Aside0.mk hr0_0
 have HC0_0:=Aside0.mk hc0_0
 clear hr0_0 hc0_0
 have HR0_2:=Aside0.mk hr0_2
 have HC0_2:=Aside0.mk hc0_2
 clear hr0_2 hc0_2
 have HO1:=Aside0.mk (show Kd.V (Kd.int .u32) 78 w w.heap.size (fun k_ => (P1_ k_∨w.heap.size≤k_)) (.slice A1 l1.length c1) l1 from Kd.V_mono hs1 (fun k_ hk => .inl hk))
 have HR2:=Aside0.mk hr2
 have HC2:=Aside0.mk hc2
 clear hr2 hc2
 have HB:=Aside0.mk (Below.refl w.heap.size w)
 have H:((sconceref06_Check.f k l0_0 a0_1 l0_2).bind fun t748 => (if t748 = true then ((sconceref03_Of.f k l0_0).bind fun t749 => (sconceref06_times.l0 k l1 t749 l2 (l2.length:Int) 0 l0_0 a0_1 l0_2)) else (some (([]:List Int),1)))) = some (r1,r2):=h
 clear h
 replace H:=Option.bind_eq_some_iff.mp H
 obtain ⟨t748,A40,H⟩:=H
 replace H:(if t748 = true then ((sconceref03_Of.f k l0_0).bind fun t749 => (sconceref06_times.l0 k l1 t749 l2 (l2.length:Int) 0 l0_0 a0_1 l0_2)) else (some (([]:List Int),1))) = some (r1,r2):=H
 have A4:=Aside0.mk A40
 clear A40
 by_cases c5:t748 = true
 ·
  subst c5
  have H1:((sconceref03_Of.f k l0_0).bind fun t749 => (sconceref06_times.l0 k l1 t749 l2 (l2.length:Int) 0 l0_0 a0_1 l0_2)) = some (r1,r2):=by rw [if_pos rfl] at H;exact H
  clear H
  have H:=H1
  clear H1
  replace H:=Option.bind_eq_some_iff.mp H
  obtain ⟨t749,A60,H⟩:=H
  replace H:(sconceref06_times.l0 k l1 t749 l2 (l2.length:Int) 0 l0_0 a0_1 l0_2) = some (r1,r2):=H
  have A6:=Aside0.mk A60
  clear A60
  have H':=Aside0.mk H
  clear H
  go_enter Try.func83,Try.ntmps83
  go_wp2_with (first | ((with_reducible refine gate_dst (N:=3) rfl ?_);refine box_event ?hg (N:=3) ?hd (cs:=#[.slice A0_0 l0_0.length c0_0,.int .u64 a0_1,.slice A0_2 l0_2.length c0_2]) (t:=59) ?hr ?_;(case hd => rfl);(case hg => rfl);(case hr => first | (go_simp;done) | (go_simp;rfl));intro gb747 hg w7 hbox hb;have n0_:=Aside0.mk (Kd.V_below (Kd.V_elderB (vV HO1.out) gb747 (Nat.le_of_eq hg.symm)) hb);have n1_:=Aside0.mk (below_step (vB HB.out) hb);have n2_:=Aside0.mk (hbox);have n3_:=Aside0.mk ((by rw [hg];exact (below_size (vB HB.out)):w.heap.size≤gb747));have n4_:=Aside0.mk ((by rw [hg];exact (below_size (vB HB.out)):w.heap.size≤gb747));clear HO1;clear HB;have HO1:=n0_;have HB:=n1_;have BK747:=n2_;have GW747:=n3_;have GE747:=n4_;clear n0_ n1_ n2_ n3_ n4_;clear hb hbox hg;have hcz8_0:w7.cell? ⟨gb747,0,none⟩ = some (.slice A0_0 l0_0.length c0_0):=(blk_cell BK747.out 0).trans rfl;have hcz8_1:w7.cell? ⟨gb747,1,none⟩ = some (.int .u64 a0_1):=(blk_cell BK747.out 1).trans rfl;have hcz8_2:w7.cell? ⟨gb747,2,none⟩ = some (.slice A0_2 l0_2.length c0_2):=(blk_cell BK747.out 2).trans rfl;have hfz8_0:=blk_frozen BK747.out 0;have hfz8_1:=blk_frozen BK747.out 1;have hfz8_2:=blk_frozen BK747.out 2) | ((with_reducible refine gate_callee (f:=41) rfl ?_);refine goesL_ (some 12) rfl rfl Try.func41 (by kernel_rfl) rfl #[.agg #[.slice A0_0 l0_0.length c0_0,.int .u64 a0_1,.slice A0_2 l0_2.length c0_2]] rfl vA ?_;(with_reducible refine (sconceref06_Check.calls k _ _ l0_0 a0_1 _ _ l0_2 true _ ?side1 ?side2 ?side3 ?side4 A4.out).mono ?_);(case side1 => repeat (first | exact (Kd.C_below HR0_0.out HB.out) | (with_reducible refine Kd.C_alloc ?_ _) | (with_reducible refine Kd.C_drewN ?_ _) | (with_reducible refine Kd.C_drew ?_)));(case side2 => exact HC0_0.out);(case side3 => repeat (first | exact (Kd.C_below HR0_2.out HB.out) | (with_reducible refine Kd.C_alloc ?_ _) | (with_reducible refine Kd.C_drewN ?_ _) | (with_reducible refine Kd.C_drew ?_)));(case side4 => exact HC0_2.out);rintro e w9 ⟨rfl,hb⟩;refine ⟨_,rfl,?_⟩;have n0_:=Aside0.mk (Kd.V_below (vV HO1.out) hb);have n1_:=Aside0.mk (blk_below (g:=gb747) (o:=.cells #[.slice A0_0 l0_0.length c0_0,.int .u64 a0_1,.slice A0_2 l0_2.length c0_2] 59 (0,0)) (vK BK747.out) hb);have n2_:=Aside0.mk (below_step (vBg HB.out GE747.out) hb);clear HO1;clear BK747;clear HB;have HO1:=n0_;have BK747:=n1_;have HB:=n2_;clear n0_ n1_ n2_;(try clear hb);(try clear hb2);(try clear hk);(try clear hi);have hcz10_0:w9.cell? ⟨gb747,0,none⟩ = some (.slice A0_0 l0_0.length c0_0):=(blk_cell BK747.out 0).trans rfl;have hcz10_1:w9.cell? ⟨gb747,1,none⟩ = some (.int .u64 a0_1):=(blk_cell BK747.out 1).trans rfl;have hcz10_2:w9.cell? ⟨gb747,2,none⟩ = some (.slice A0_2 l0_2.length c0_2):=(blk_cell BK747.out 2).trans rfl;have hfz10_0:=blk_frozen BK747.out 0;have hfz10_1:=blk_frozen BK747.out 1;have hfz10_2:=blk_frozen BK747.out 2) | ((with_reducible refine gate_callee (f:=21) rfl ?_);refine goesL_ (some 16) rfl rfl Try.func21 (by kernel_rfl) rfl #[.slice A0_0 l0_0.length c0_0] rfl vA ?_;(with_reducible refine (sconceref03_Of.calls k _ _ l0_0 t749 _ ?side1 ?side2 A6.out).mono ?_);(case side1 => repeat (first | exact (Kd.C_below HR0_0.out HB.out) | (with_reducible refine Kd.C_alloc ?_ _) | (with_reducible refine Kd.C_drewN ?_ _) | (with_reducible refine Kd.C_drew ?_)));(case side2 => exact HC0_0.out);rintro e w11 ⟨v750,rfl,ho0,hb⟩;refine ⟨_,rfl,?_⟩;have n0_:=Aside0.mk (Kd.V_below (vV HO1.out) hb);have n1_:=Aside0.mk (Kd.V_lower (Kd.V_mono (ok':=fun k_ => (P1_ k_∨w.heap.size≤k_)∧k_≠gb747) ho0 (fun k_ hk_ => ⟨(.inr (Nat.le_trans (below_size (vBg HB.out GE747.out)) hk_)),(Kd.freshB (g:=gb747) (o:=.cells #[.slice A0_0 l0_0.length c0_0,.int .u64 a0_1,.slice A0_2 l0_2.length c0_2] 59 (0,0)) (vK BK747.out) k_ hk_)⟩)) (below_size (vBg HB.out GE747.out)));have n2_:=Aside0.mk (blk_below (g:=gb747) (o:=.cells #[.slice A0_0 l0_0.length c0_0,.int .u64 a0_1,.slice A0_2 l0_2.length c0_2] 59 (0,0)) (vK BK747.out) hb);have n3_:=Aside0.mk (below_step (vBg HB.out GE747.out) hb);clear HO1;clear BK747;clear HB;have HO1:=n0_;have HO751:=n1_;have BK747:=n2_;have HB:=n3_;clear n0_ n1_ n2_ n3_;(try clear hb);(try clear hb2);(try clear hk);(try clear hi);(try clear ho0)))
  go_loopg [1,19] k (fun kq v1 v19 w' => ∃ (x1_1:List Int) (x19_1:Int),v19 = .int .i64 x19_1∧Aside0 (sconceref06_times.l0 kq x1_1 t749 l2 (l2.length:Int) x19_1 l0_0 a0_1 l0_2 = some (r1,r2))∧Aside0 (kq≤k)∧Aside0 (Kd.V (Kd.int .u32) 78 w' w.heap.size (fun k_ => (P1_ k_∨w.heap.size≤k_)∧k_≠gb747) v1 x1_1)∧Aside0 (Kd.V (Kd.int .u32) 78 w' w.heap.size (fun k_ => (P1_ k_∨w.heap.size≤k_)∧k_≠gb747) v750 t749)∧Aside0 (w'.heap[gb747]? = some (.cells #[(.slice A0_0 l0_0.length c0_0),.int .u64 a0_1,(.slice A0_2 l0_2.length c0_2)] 59 (0,0)))∧Aside0 (Below w.heap.size w w'))
  case atStart => exact ⟨(l1),(0),(by first | rfl | (simp;done) | (simp [*];done)),H',⟨Nat.le_refl _⟩,⟨by (with_reducible repeat (first | apply Kd.V_alloc | apply Kd.V_drewN | apply Kd.V_drew));exact HO1.out⟩,⟨by (with_reducible repeat (first | apply Kd.V_alloc | apply Kd.V_drewN | apply Kd.V_drew));exact HO751.out⟩,⟨by (with_reducible repeat (first | refine blk_drewN ?_ _ | refine blk_drew ?_ | refine blk_alloc ?_ _));exact BK747.out⟩,⟨by repeat (first | (with_reducible first | exact HB.out | apply below_alloc | apply pw_below_drewN | apply below_drew1 | refine below_set ?_ GE747.out) | exact HB.out)⟩⟩
  case round =>
   clear H'
   try clear c1
   try clear c2
   try clear p2
   try clear c4
   try clear c5
   try clear c8
   try clear hcz10_0
   try clear hcz10_1
   try clear hcz10_2
   try clear hcz8_0
   try clear hcz8_1
   try clear hcz8_2
   try clear hfz10_0
   try clear hfz10_1
   try clear hfz10_2
   try clear hfz8_0
   try clear hfz8_1
   try clear hfz8_2
   obtain ⟨x1_1,x19_1,rfl,HA,HK1,HO_1,HO_8,BK747,HB⟩:=hrel
   cases gk with
   | zero => exact absurd HA.out (by simp [sconceref06_times.l0])
   | succ k1 =>
    have H:=HA.out
    clear HA
    simp only [sconceref06_times.l0] at H
    by_cases c12:x19_1 < (l2.length:Int)
    ·
     rw [if_pos c12] at H
     have c12b0:decide (x19_1 < (l2.length:Int)) = true:=decide_eq_true c12
     clear c12
     by_cases c13:0≤x19_1
     ·
      rw [if_pos c13] at H
      have c13b0:decide (0≤x19_1) = true:=decide_eq_true c13
      clear c13
      by_cases c14:x19_1 < (l2.length:Int)
      ·
       rw [if_pos c14] at H
       have c14b0:decide (x19_1 < (l2.length:Int)) = true:=decide_eq_true c14
       clear c14
       replace H:=Option.bind_eq_some_iff.mp H
       obtain ⟨t759,A150,H⟩:=H
       replace H:(if t759 = true then ((sconceref03_Of.f k1 (rd_L2 l2 x19_1)).bind fun t760 => ((sconceref03_MulMod.f k1 x1_1 t760 t749).bind fun t763 => (sconceref06_times.l0 k1 t763 t749 l2 (l2.length:Int) (wrap64 (x19_1 + 1)) l0_0 a0_1 l0_2))) else (some (([]:List Int),1))) = some (r1,r2):=H
       have A15:=Aside0.mk A150
       clear A150
       by_cases c16:t759 = true
       ·
        subst c16
        have H1:((sconceref03_Of.f k1 (rd_L2 l2 x19_1)).bind fun t760 => ((sconceref03_MulMod.f k1 x1_1 t760 t749).bind fun t763 => (sconceref06_times.l0 k1 t763 t749 l2 (l2.length:Int) (wrap64 (x19_1 + 1)) l0_0 a0_1 l0_2))) = some (r1,r2):=by rw [if_pos rfl] at H;exact H
        clear H
        have H:=H1
        clear H1
        replace H:=Option.bind_eq_some_iff.mp H
        obtain ⟨t760,A170,H⟩:=H
        replace H:((sconceref03_MulMod.f k1 x1_1 t760 t749).bind fun t763 => (sconceref06_times.l0 k1 t763 t749 l2 (l2.length:Int) (wrap64 (x19_1 + 1)) l0_0 a0_1 l0_2)) = some (r1,r2):=H
        have A17:=Aside0.mk A170
        clear A170
        replace H:=Option.bind_eq_some_iff.mp H
        obtain ⟨t763,A180,H⟩:=H
        replace H:(sconceref06_times.l0 k1 t763 t749 l2 (l2.length:Int) (wrap64 (x19_1 + 1)) l0_0 a0_1 l0_2) = some (r1,r2):=H
        have A18:=Aside0.mk A180
        clear A180
        have H':=Aside0.mk H
        clear H
        have p758:0≤(x19_1:Int):=of_decide_eq_true vD
        have q758:x19_1 < (l2.length:Int):=of_decide_eq_true vD
        obtain ⟨ad758,A758_0,c758_0,e758,hx758_0,hl758_0,hi758_0⟩:=at_L2 HR2.out x19_1 p758 q758
        cases e758
        replace hx758_0:=(HB.out.cell (World.block_lt_of_cell? w _ hx758_0)).trans hx758_0
        have HR758_0:=Aside0.mk hi758_0
        have HC758_0:=Aside0.mk hl758_0
        clear hi758_0 hl758_0
        replace p758:=eq_true p758
        replace q758:=eq_true q758
        have hcz19_0:wr.cell? ⟨gb747,0,none⟩ = some (.slice A0_0 l0_0.length c0_0):=(blk_cell BK747.out 0).trans rfl
        have hcz19_1:wr.cell? ⟨gb747,1,none⟩ = some (.int .u64 a0_1):=(blk_cell BK747.out 1).trans rfl
        have hcz19_2:wr.cell? ⟨gb747,2,none⟩ = some (.slice A0_2 l0_2.length c0_2):=(blk_cell BK747.out 2).trans rfl
        have hfz19_0:=blk_frozen BK747.out 0
        have hfz19_1:=blk_frozen BK747.out 1
        have hfz19_2:=blk_frozen BK747.out 2
        go_wp2_with (first | ((with_reducible refine gate_callee (f:=110) rfl ?_);refine goesL_ (some 25) rfl rfl Try.func110 (by kernel_rfl) rfl #[.agg #[.slice A0_0 l0_0.length c0_0,.int .u64 a0_1,.slice A0_2 l0_2.length c0_2],.slice A758_0 (rd_L2 l2 x19_1).length c758_0] rfl vA ?_;(with_reducible refine (sconceref06_Member.calls k1 _ _ l0_0 a0_1 _ _ l0_2 _ _ (rd_L2 l2 x19_1) true _ ?side1 ?side2 ?side3 ?side4 ?side5 ?side6 A15.out).mono ?_);(case side1 => repeat (first | exact (Kd.C_below HR0_0.out HB.out) | (with_reducible refine Kd.C_alloc ?_ _) | (with_reducible refine Kd.C_drewN ?_ _) | (with_reducible refine Kd.C_drew ?_)));(case side2 => exact HC0_0.out);(case side3 => repeat (first | exact (Kd.C_below HR0_2.out HB.out) | (with_reducible refine Kd.C_alloc ?_ _) | (with_reducible refine Kd.C_drewN ?_ _) | (with_reducible refine Kd.C_drew ?_)));(case side4 => exact HC0_2.out);(case side5 => repeat (first | exact (Kd.C_below HR758_0.out HB.out) | (with_reducible refine Kd.C_alloc ?_ _) | (with_reducible refine Kd.C_drewN ?_ _) | (with_reducible refine Kd.C_drew ?_)));(case side6 => exact HC758_0.out);rintro e w20 ⟨rfl,hb⟩;refine ⟨_,rfl,?_⟩;have n0_:=Aside0.mk (Kd.V_below (vV HO_1.out) hb);have n1_:=Aside0.mk (Kd.V_below (vV HO_8.out) hb);have n2_:=Aside0.mk (blk_below (g:=gb747) (o:=.cells #[.slice A0_0 l0_0.length c0_0,.int .u64 a0_1,.slice A0_2 l0_2.length c0_2] 59 (0,0)) (vK BK747.out) hb);have n3_:=Aside0.mk (below_step (vBg HB.out GE747.out) hb);clear HO_1;clear HO_8;clear BK747;clear HB;have HO_1:=n0_;have HO_8:=n1_;have BK747:=n2_;have HB:=n3_;clear n0_ n1_ n2_ n3_;(try clear hb);(try clear hb2);(try clear hk);(try clear hi)) | ((with_reducible refine gate_callee (f:=21) rfl ?_);refine goesL_ (some 29) rfl rfl Try.func21 (by kernel_rfl) rfl #[.slice A758_0 (rd_L2 l2 x19_1).length c758_0] rfl vA ?_;(with_reducible refine (sconceref03_Of.calls k1 _ _ (rd_L2 l2 x19_1) t760 _ ?side1 ?side2 A17.out).mono ?_);(case side1 => repeat (first | exact (Kd.C_below HR758_0.out HB.out) | (with_reducible refine Kd.C_alloc ?_ _) | (with_reducible refine Kd.C_drewN ?_ _) | (with_reducible refine Kd.C_drew ?_)));(case side2 => exact HC758_0.out);rintro e w21 ⟨v761,rfl,ho0,hb⟩;refine ⟨_,rfl,?_⟩;have n0_:=Aside0.mk (Kd.V_below (vV HO_1.out) hb);have n1_:=Aside0.mk (Kd.V_below (vV HO_8.out) hb);have n2_:=Aside0.mk (Kd.V_lower (Kd.V_mono (ok':=fun k_ => (P1_ k_∨w.heap.size≤k_)∧k_≠gb747) ho0 (fun k_ hk_ => ⟨(.inr (Nat.le_trans (below_size (vBg HB.out GE747.out)) hk_)),(Kd.freshB (g:=gb747) (o:=.cells #[.slice A0_0 l0_0.length c0_0,.int .u64 a0_1,.slice A0_2 l0_2.length c0_2] 59 (0,0)) (vK BK747.out) k_ hk_)⟩)) (below_size (vBg HB.out GE747.out)));have n3_:=Aside0.mk (blk_below (g:=gb747) (o:=.cells #[.slice A0_0 l0_0.length c0_0,.int .u64 a0_1,.slice A0_2 l0_2.length c0_2] 59 (0,0)) (vK BK747.out) hb);have n4_:=Aside0.mk (below_step (vBg HB.out GE747.out) hb);clear HO_1;clear HO_8;clear BK747;clear HB;have HO_1:=n0_;have HO_8:=n1_;have HO762:=n2_;have BK747:=n3_;have HB:=n4_;clear n0_ n1_ n2_ n3_ n4_;(try clear hb);(try clear hb2);(try clear hk);(try clear hi);(try clear ho0);obtain ⟨Ao22,co22,eo22⟩:=Kd.V_slice HO_1.out;subst eo22;obtain ⟨Ao23,co23,eo23⟩:=Kd.V_slice HO762.out;subst eo23;obtain ⟨Ao24,co24,eo24⟩:=Kd.V_slice HO_8.out;subst eo24) | ((with_reducible refine gate_callee (f:=46) rfl ?_);refine goesL_ (some 31) rfl rfl Try.func46 (by kernel_rfl) rfl #[.slice Ao22 x1_1.length co22,.slice Ao23 t760.length co23,.slice Ao24 t749.length co24] rfl vA ?_;(with_reducible refine (sconceref03_MulMod.calls k1 _ _ x1_1 _ _ t760 _ _ t749 t763 _ ?side1 ?side2 ?side3 ?side4 ?side5 ?side6 A18.out).mono ?_);(case side1 => repeat (first | exact (Kd.V_reads' HO_1.out).2.2 | (with_reducible refine Kd.C_alloc ?_ _) | (with_reducible refine Kd.C_drewN ?_ _) | (with_reducible refine Kd.C_drew ?_)));(case side2 => exact (Kd.V_reads' HO_1.out).2.1);(case side3 => repeat (first | exact (Kd.V_reads' HO762.out).2.2 | (with_reducible refine Kd.C_alloc ?_ _) | (with_reducible refine Kd.C_drewN ?_ _) | (with_reducible refine Kd.C_drew ?_)));(case side4 => exact (Kd.V_reads' HO762.out).2.1);(case side5 => repeat (first | exact (Kd.V_reads' HO_8.out).2.2 | (with_reducible refine Kd.C_alloc ?_ _) | (with_reducible refine Kd.C_drewN ?_ _) | (with_reducible refine Kd.C_drew ?_)));(case side6 => exact (Kd.V_reads' HO_8.out).2.1);rintro e w25 ⟨v764,rfl,ho0,hb⟩;refine ⟨_,rfl,?_⟩;have n0_:=Aside0.mk (Kd.V_below (vV HO_1.out) hb);have n1_:=Aside0.mk (Kd.V_below (vV HO_8.out) hb);have n2_:=Aside0.mk (Kd.V_below (vV HO762.out) hb);have n3_:=Aside0.mk (Kd.V_lower (Kd.V_mono (ok':=fun k_ => (P1_ k_∨w.heap.size≤k_)∧k_≠gb747) ho0 (fun k_ hk_ => ⟨(.inr (Nat.le_trans (below_size (vBg HB.out GE747.out)) hk_)),(Kd.freshB (g:=gb747) (o:=.cells #[.slice A0_0 l0_0.length c0_0,.int .u64 a0_1,.slice A0_2 l0_2.length c0_2] 59 (0,0)) (vK BK747.out) k_ hk_)⟩)) (below_size (vBg HB.out GE747.out)));have n4_:=Aside0.mk (blk_below (g:=gb747) (o:=.cells #[.slice A0_0 l0_0.length c0_0,.int .u64 a0_1,.slice A0_2 l0_2.length c0_2] 59 (0,0)) (vK BK747.out) hb);have n5_:=Aside0.mk (below_step (vBg HB.out GE747.out) hb);clear HO_1;clear HO_8;clear HO762;clear BK747;clear HB;have HO_1:=n0_;have HO_8:=n1_;have HO762:=n2_;have HO765:=n3_;have BK747:=n4_;have HB:=n5_;clear n0_ n1_ n2_ n3_ n4_ n5_;(try clear hb);(try clear hb2);(try clear hk);(try clear hi);(try clear ho0)))
        go_roundg k1
        case measure => have:=HK1.out;omega
        case rel => exact ⟨(t763),(wrap64 (x19_1 + 1)),(by first | rfl | (simp;done) | (simp [*];done)),H',⟨by have:=HK1.out;omega⟩,⟨by (with_reducible repeat (first | apply Kd.V_alloc | apply Kd.V_drewN | apply Kd.V_drew));exact HO765.out⟩,⟨by (with_reducible repeat (first | apply Kd.V_alloc | apply Kd.V_drewN | apply Kd.V_drew));exact HO_8.out⟩,⟨by (with_reducible repeat (first | refine blk_drewN ?_ _ | refine blk_drew ?_ | refine blk_alloc ?_ _));exact BK747.out⟩,⟨by repeat (first | (with_reducible first | exact HB.out | apply below_alloc | apply pw_below_drewN | apply below_drew1 | refine below_set ?_ GE747.out) | exact HB.out)⟩⟩
       ·
        replace c16:=Bool.eq_false_iff.mpr c16
        subst c16
        have H1:(some (([]:List Int),1)) = some (r1,r2):=by rw [if_neg (show ¬ (false = true) by decide)] at H;exact H
        clear H
        have H:=H1
        clear H1
        simp only [Option.some.injEq,Prod.mk.injEq] at H
        obtain ⟨rfl,rfl⟩:=H
        have p758:0≤(x19_1:Int):=of_decide_eq_true vD
        have q758:x19_1 < (l2.length:Int):=of_decide_eq_true vD
        obtain ⟨ad758,A758_0,c758_0,e758,hx758_0,hl758_0,hi758_0⟩:=at_L2 HR2.out x19_1 p758 q758
        cases e758
        replace hx758_0:=(HB.out.cell (World.block_lt_of_cell? w _ hx758_0)).trans hx758_0
        have HR758_0:=Aside0.mk hi758_0
        have HC758_0:=Aside0.mk hl758_0
        clear hi758_0 hl758_0
        replace p758:=eq_true p758
        replace q758:=eq_true q758
        have hcz26_0:wr.cell? ⟨gb747,0,none⟩ = some (.slice A0_0 l0_0.length c0_0):=(blk_cell BK747.out 0).trans rfl
        have hcz26_1:wr.cell? ⟨gb747,1,none⟩ = some (.int .u64 a0_1):=(blk_cell BK747.out 1).trans rfl
        have hcz26_2:wr.cell? ⟨gb747,2,none⟩ = some (.slice A0_2 l0_2.length c0_2):=(blk_cell BK747.out 2).trans rfl
        have hfz26_0:=blk_frozen BK747.out 0
        have hfz26_1:=blk_frozen BK747.out 1
        have hfz26_2:=blk_frozen BK747.out 2
        go_wp2_with (first | ((with_reducible refine gate_callee (f:=110) rfl ?_);refine goesL_ (some 25) rfl rfl Try.func110 (by kernel_rfl) rfl #[.agg #[.slice A0_0 l0_0.length c0_0,.int .u64 a0_1,.slice A0_2 l0_2.length c0_2],.slice A758_0 (rd_L2 l2 x19_1).length c758_0] rfl vA ?_;(with_reducible refine (sconceref06_Member.calls k1 _ _ l0_0 a0_1 _ _ l0_2 _ _ (rd_L2 l2 x19_1) false _ ?side1 ?side2 ?side3 ?side4 ?side5 ?side6 A15.out).mono ?_);(case side1 => repeat (first | exact (Kd.C_below HR0_0.out HB.out) | (with_reducible refine Kd.C_alloc ?_ _) | (with_reducible refine Kd.C_drewN ?_ _) | (with_reducible refine Kd.C_drew ?_)));(case side2 => exact HC0_0.out);(case side3 => repeat (first | exact (Kd.C_below HR0_2.out HB.out) | (with_reducible refine Kd.C_alloc ?_ _) | (with_reducible refine Kd.C_drewN ?_ _) | (with_reducible refine Kd.C_drew ?_)));(case side4 => exact HC0_2.out);(case side5 => repeat (first | exact (Kd.C_below HR758_0.out HB.out) | (with_reducible refine Kd.C_alloc ?_ _) | (with_reducible refine Kd.C_drewN ?_ _) | (with_reducible refine Kd.C_drew ?_)));(case side6 => exact HC758_0.out);rintro e w27 ⟨rfl,hb⟩;refine ⟨_,rfl,?_⟩;have n0_:=Aside0.mk (Kd.V_below (vV HO_1.out) hb);have n1_:=Aside0.mk (Kd.V_below (vV HO_8.out) hb);have n2_:=Aside0.mk (blk_below (g:=gb747) (o:=.cells #[.slice A0_0 l0_0.length c0_0,.int .u64 a0_1,.slice A0_2 l0_2.length c0_2] 59 (0,0)) (vK BK747.out) hb);have n3_:=Aside0.mk (below_step (vBg HB.out GE747.out) hb);clear HO_1;clear HO_8;clear BK747;clear HB;have HO_1:=n0_;have HO_8:=n1_;have BK747:=n2_;have HB:=n3_;clear n0_ n1_ n2_ n3_;(try clear hb);(try clear hb2);(try clear hk);(try clear hi)))
        go_ret2
        exact ⟨_,by first | rfl | (simp [errW_none,errW_some] <;> rfl) | (simp [*,errW_none,errW_some] <;> rfl),by first | exact Kd.R_nil _ _ _ _ _ | exact Kd.N_nil _ _ _ _ _ | exact Kd.V_nil _ _ _ _ _ | exact Kd.Q_nil _ _ _ _ _ | exact Kd.S_nil _ _ _ _ _,by repeat (first | (with_reducible first | exact HB.out | apply below_alloc | apply pw_below_drewN | apply below_drew1 | refine below_set ?_ GE747.out) | exact HB.out)⟩
      ·
       rw [if_neg c14] at H
       exact absurd H (by simp)
     ·
      rw [if_neg c13] at H
      exact absurd H (by simp)
    ·
     rw [if_neg c12] at H
     have c12b0:decide (x19_1 < (l2.length:Int)) = false:=decide_eq_false c12
     clear c12
     replace H:=Option.bind_eq_some_iff.mp H
     obtain ⟨t752,A280,H⟩:=H
     replace H:((sconceref03_Nat.f k1 t752 (l0_0.length:Int)).bind fun t755 => (some (t755,0))) = some (r1,r2):=H
     have A28:=Aside0.mk A280
     clear A280
     replace H:=Option.bind_eq_some_iff.mp H
     obtain ⟨t755,A290,H⟩:=H
     replace H:(some (t755,0)) = some (r1,r2):=H
     have A29:=Aside0.mk A290
     clear A290
     simp only [Option.some.injEq,Prod.mk.injEq] at H
     obtain ⟨rfl,rfl⟩:=H
     try go_wp2
     have n0_:=Aside0.mk (Kd.V_drew HO_1.out)
     have n1_:=Aside0.mk (Kd.V_drew HO_8.out)
     have n2_:=Aside0.mk (blk_drew BK747.out)
     have n3_:=Aside0.mk (below_drew1 HB.out)
     clear HO_1
     clear HO_8
     clear BK747
     clear HB
     have HO_1:=n0_
     have HO_8:=n1_
     have BK747:=n2_
     have HB:=n3_
     clear n0_ n1_ n2_ n3_
     obtain ⟨Ao31,co31,eo31⟩:=Kd.V_slice HO_1.out
     (first | subst eo31 | (injection eo31 with f1_ f2_ f3_;have f4_:=f1_.symm;have f5_:=f3_.symm;clear f1_ f2_ f3_;subst f4_;subst f5_))
     obtain ⟨Ao32,co32,eo32⟩:=Kd.V_slice HO_8.out
     (first | subst eo32 | (injection eo32 with f1_ f2_ f3_;have f4_:=f1_.symm;have f5_:=f3_.symm;clear f1_ f2_ f3_;subst f4_;subst f5_))
     refine start_ (n:=9) (S:=fun w' => w'.cell? ⟨gb747,0,none⟩ = some (.slice A0_0 l0_0.length c0_0)∧w'.cell? ⟨gb747,1,none⟩ = some (.int .u64 a0_1)∧w'.cell? ⟨gb747,2,none⟩ = some (.slice A0_2 l0_2.length c0_2)) (ds:=[]) #[false,false,false,false,false,false,false,false,false] (by kernel_rfl) rfl rfl ⟨(blk_cell BK747.out 0).trans rfl,(blk_cell BK747.out 1).trans rfl,(blk_cell BK747.out 2).trans rfl⟩ (fun hHeld => ?_);refine with_tabW sconceref06_times.tab11 sconceref06_times.bits11 (fun HT_ HW_ => ?_)
     generalize wr.drew = w30 at HO_1 HO_8 BK747 HB hHeld ⊢
     refine pure_ (i:=0) (N:=some 33) (v:=?_) (a':=?_) #[true,false,false,false,false,false,false,false,false] rfl rfl (any_of HT_.out (by kernel_rfl)) (fun _ _ _ h => h) (Or.inl ⟨by rfl,?_⟩) ?_ ?_
     rotate_left
     ·
      exact vQ
     rotate_left
     ·
      exact vP
     refine pure_ (i:=1) (N:=some 34) (v:=?_) (a':=?_) #[true,true,false,false,false,false,false,false,false] rfl rfl (any_of HT_.out (by kernel_rfl)) (fun _ _ _ h => h) (Or.inl ⟨by rfl,?_⟩) ?_ ?_
     rotate_left
     ·
      exact vQ
     rotate_left
     ·
      exact vP
     refine pure_ (i:=3) (N:=some 36) (v:=?_) (a':=?_) #[true,true,false,true,false,false,false,false,false] rfl rfl (any_of HT_.out (by kernel_rfl)) (fun _ _ _ h => h) (Or.inl ⟨by rfl,?_⟩) ?_ ?_
     rotate_left
     ·
      exact vQ
     rotate_left
     ·
      exact vP
     refine take_ (i:=4) (N:=some 37) (v:=?_) (a':=?_) #[true,true,false,true,true,false,false,false,false] rfl rfl (take_ofW HT_.out HW_.out (by kernel_rfl)) (fun _ _ _ h => h) (Or.inl ⟨by rfl,?_⟩) hHeld ?_ ?_
     rotate_left
     ·
      rintro w' ⟨s0,s1,s2⟩
      go_simp
      with_reducible rfl
     rotate_left
     ·
      exact vP
     refine pure_ (i:=5) (N:=some 38) (v:=?_) (a':=?_) #[true,true,false,true,true,true,false,false,false] rfl rfl (any_of HT_.out (by kernel_rfl)) (fun _ _ _ h => h) (Or.inl ⟨by rfl,?_⟩) ?_ ?_
     rotate_left
     ·
      exact vQ
     rotate_left
     ·
      exact vP
     refine one_ (i:=2) (N:=some 35) #[true,true,true,true,true,true,false,false,false] rfl rfl (one_of HT_.out (by kernel_rfl)) (by decide) (fun K hK => ?_)
     refine goes_ Try.func78 (by kernel_rfl) rfl #[.slice Ao31 x1_1.length co31,.slice Ao32 t749.length co32] (by rfl) rfl rfl vA ?_
     with_reducible refine (sconceref03_Mod.calls (fun k_ => ((P1_ k_∨w.heap.size≤k_)∧k_≠gb747)) _ _ x1_1 _ _ t749 t752 _ ?side1 ?side2 ?side3 A28.out).mono ?_
     (case side1 => exact HO_1.out)
     (case side2 => repeat (first | exact (Kd.V_reads' HO_8.out).2.2 | (with_reducible refine Kd.C_alloc ?_ _) | (with_reducible refine Kd.C_drewN ?_ _) | (with_reducible refine Kd.C_drew ?_)))
     (case side3 => exact (Kd.V_reads' HO_8.out).2.1)
     rintro e w33 ⟨v753,rfl,ho0,hb⟩
     refine ⟨_,rfl,?_⟩
     have n0_:=Aside0.mk (Kd.V_below (vV HO_1.out) hb)
     have n1_:=Aside0.mk (Kd.V_below (vV HO_8.out) hb)
     have n2_:=Aside0.mk (Kd.V_lower (Kd.V_mono (ok':=fun k_ => (P1_ k_∨w.heap.size≤k_)∧k_≠gb747) ho0 (fun k_ hk_ => ⟨Or.elim hk_ (fun hs_ => hs_.1) (fun hn_ => (.inr (Nat.le_trans (below_size (vBg HB.out GE747.out)) hn_))),Or.elim hk_ (fun hs_ => hs_.2) (fun hn_ => (Kd.freshB (g:=gb747) (o:=.cells #[.slice A0_0 l0_0.length c0_0,.int .u64 a0_1,.slice A0_2 l0_2.length c0_2] 59 (0,0)) (vK BK747.out) k_ hn_))⟩)) (below_size (vBg HB.out GE747.out)))
     have n3_:=Aside0.mk (blk_below (g:=gb747) (o:=.cells #[.slice A0_0 l0_0.length c0_0,.int .u64 a0_1,.slice A0_2 l0_2.length c0_2] 59 (0,0)) (vK BK747.out) hb)
     have n4_:=Aside0.mk (below_step (vBg HB.out GE747.out) hb)
     clear HO_1
     clear HO_8
     clear BK747
     clear HB
     have HO_1:=n0_
     have HO_8:=n1_
     have HO754:=n2_
     have BK747:=n3_
     have HB:=n4_
     clear n0_ n1_ n2_ n3_ n4_
     (try clear hb)
     (try clear hb2)
     (try clear hk)
     (try clear hi)
     (try clear ho0)
     obtain ⟨Ao34,co34,eo34⟩:=Kd.V_slice HO754.out
     (first | subst eo34 | (injection eo34 with f1_ f2_ f3_;have f4_:=f1_.symm;have f5_:=f3_.symm;clear f1_ f2_ f3_;subst f4_;subst f5_))
     refine hK.out _ _ ⟨(blk_cell BK747.out 0).trans rfl,(blk_cell BK747.out 1).trans rfl,(blk_cell BK747.out 2).trans rfl⟩ (fun hHeld => ?_)
     clear hK K
     refine norm_ (a':=?_) ?_ ?_
     rotate_left
     ·
      show Act.put _ (some 35) _ = _
      simp only [Act.put,List.setIfInBounds_toArray,List.set_cons_zero,List.set_cons_succ,i64_w,i32_w]
      rfl
     refine one_ (i:=6) (N:=some 39) #[true,true,true,true,true,true,true,false,false] rfl rfl (one_of HT_.out (by kernel_rfl)) (by decide) (fun K hK => ?_)
     refine goes_ Try.func50 (by kernel_rfl) rfl #[.slice Ao34 t752.length co34,.int .i64 (l0_0.length:Int)] (by rfl) rfl rfl vA ?_
     with_reducible refine (sconceref03_Nat.calls k1 _ _ t752 (l0_0.length:Int) t755 _ ?side1 ?side2 A29.out).mono ?_
     (case side1 => repeat (first | exact (Kd.V_reads' HO754.out).2.2 | (with_reducible refine Kd.C_alloc ?_ _) | (with_reducible refine Kd.C_drewN ?_ _) | (with_reducible refine Kd.C_drew ?_)))
     (case side2 => exact (Kd.V_reads' HO754.out).2.1)
     rintro e w35 ⟨v756,rfl,ho0,hb⟩
     refine ⟨_,rfl,?_⟩
     have n0_:=Aside0.mk (Kd.V_elder' (vV HO_1.out) (Kd.R_base ho0) hb)
     have n1_:=Aside0.mk (Kd.V_elder' (vV HO_8.out) (Kd.R_base ho0) hb)
     have n2_:=Aside0.mk (Kd.V_elder' (vV HO754.out) (Kd.R_base ho0) hb)
     have n3_:=Aside0.mk (Kd.R_lower (Kd.R_newM (M:=fun k_ => (w.heap.size≤k_)) ho0 (below_size (vBg HB.out GE747.out)) (fun k_ h_ => h_)) (below_size (vBg HB.out GE747.out)))
     have n4_:=Aside0.mk (blk_below (g:=gb747) (o:=.cells #[.slice A0_0 l0_0.length c0_0,.int .u64 a0_1,.slice A0_2 l0_2.length c0_2] 59 (0,0)) (vK BK747.out) hb)
     have n5_:=Aside0.mk (below_step (vBg HB.out GE747.out) hb)
     clear HO_1
     clear HO_8
     clear HO754
     clear BK747
     clear HB
     have HO_1:=n0_
     have HO_8:=n1_
     have HO754:=n2_
     have HO757:=n3_
     have BK747:=n4_
     have HB:=n5_
     clear n0_ n1_ n2_ n3_ n4_ n5_
     (try clear hb)
     (try clear hb2)
     (try clear hk)
     (try clear hi)
     (try clear ho0)
     refine hK.out _ _ ⟨(blk_cell BK747.out 0).trans rfl,(blk_cell BK747.out 1).trans rfl,(blk_cell BK747.out 2).trans rfl⟩ (fun hHeld => ?_)
     clear hK K
     refine norm_ (a':=?_) ?_ ?_
     rotate_left
     ·
      show Act.put _ (some 39) _ = _
      simp only [Act.put,List.setIfInBounds_toArray,List.set_cons_zero,List.set_cons_succ,i64_w,i32_w]
      rfl
     refine pure_ (i:=7) (N:=some 6) (v:=?_) (a':=?_) #[true,true,true,true,true,true,true,true,false] rfl rfl (any_of HT_.out (by kernel_rfl)) (fun _ _ _ h => h) (Or.inl ⟨by rfl,?_⟩) ?_ ?_
     rotate_left
     ·
      exact vQ
     rotate_left
     ·
      exact vP
     refine pure_ (i:=8) (N:=some 7) (v:=?_) (a':=?_) #[true,true,true,true,true,true,true,true,true] rfl rfl (any_of HT_.out (by kernel_rfl)) (fun _ _ _ h => h) (Or.inl ⟨by rfl,?_⟩) ?_ ?_
     rotate_left
     ·
      exact vQ
     rotate_left
     ·
      exact vP
     refine done_ (done_of HT_.out (by kernel_rfl)) ?_
     try go_wp2
     go_ret2
     exact ⟨_,by first | rfl | (simp [errW_none,errW_some] <;> rfl) | (simp [*,errW_none,errW_some] <;> rfl),by (with_reducible repeat (first | apply Kd.R_alloc | apply Kd.R_drewN | apply Kd.R_drew));exact Kd.R_mono HO757.out (fun _ hk => hk.1),by repeat (first | (with_reducible first | exact HB.out | apply below_alloc | apply pw_below_drewN | apply below_drew1 | refine below_set ?_ GE747.out) | exact HB.out)⟩
 ·
  replace c5:=Bool.eq_false_iff.mpr c5
  subst c5
  have H1:(some (([]:List Int),1)) = some (r1,r2):=by rw [if_neg (show ¬ (false = true) by decide)] at H;exact H
  clear H
  have H:=H1
  clear H1
  simp only [Option.some.injEq,Prod.mk.injEq] at H
  obtain ⟨rfl,rfl⟩:=H
  go_enter Try.func83,Try.ntmps83
  go_wp2_with (first | ((with_reducible refine gate_dst (N:=3) rfl ?_);refine box_event ?hg (N:=3) ?hd (cs:=#[.slice A0_0 l0_0.length c0_0,.int .u64 a0_1,.slice A0_2 l0_2.length c0_2]) (t:=59) ?hr ?_;(case hd => rfl);(case hg => rfl);(case hr => first | (go_simp;done) | (go_simp;rfl));intro gb747 hg w36 hbox hb;have n0_:=Aside0.mk (Kd.V_below (Kd.V_elderB (vV HO1.out) gb747 (Nat.le_of_eq hg.symm)) hb);have n1_:=Aside0.mk (below_step (vB HB.out) hb);have n2_:=Aside0.mk (hbox);have n3_:=Aside0.mk ((by rw [hg];exact (below_size (vB HB.out)):w.heap.size≤gb747));have n4_:=Aside0.mk ((by rw [hg];exact (below_size (vB HB.out)):w.heap.size≤gb747));clear HO1;clear HB;have HO1:=n0_;have HB:=n1_;have BK747:=n2_;have GW747:=n3_;have GE747:=n4_;clear n0_ n1_ n2_ n3_ n4_;clear hb hbox hg;have hcz37_0:w36.cell? ⟨gb747,0,none⟩ = some (.slice A0_0 l0_0.length c0_0):=(blk_cell BK747.out 0).trans rfl;have hcz37_1:w36.cell? ⟨gb747,1,none⟩ = some (.int .u64 a0_1):=(blk_cell BK747.out 1).trans rfl;have hcz37_2:w36.cell? ⟨gb747,2,none⟩ = some (.slice A0_2 l0_2.length c0_2):=(blk_cell BK747.out 2).trans rfl;have hfz37_0:=blk_frozen BK747.out 0;have hfz37_1:=blk_frozen BK747.out 1;have hfz37_2:=blk_frozen BK747.out 2) | ((with_reducible refine gate_callee (f:=41) rfl ?_);refine goesL_ (some 12) rfl rfl Try.func41 (by kernel_rfl) rfl #[.agg #[.slice A0_0 l0_0.length c0_0,.int .u64 a0_1,.slice A0_2 l0_2.length c0_2]] rfl vA ?_;(with_reducible refine (sconceref06_Check.calls k _ _ l0_0 a0_1 _ _ l0_2 false _ ?side1 ?side2 ?side3 ?side4 A4.out).mono ?_);(case side1 => repeat (first | exact (Kd.C_below HR0_0.out HB.out) | (with_reducible refine Kd.C_alloc ?_ _) | (with_reducible refine Kd.C_drewN ?_ _) | (with_reducible refine Kd.C_drew ?_)));(case side2 => exact HC0_0.out);(case side3 => repeat (first | exact (Kd.C_below HR0_2.out HB.out) | (with_reducible refine Kd.C_alloc ?_ _) | (with_reducible refine Kd.C_drewN ?_ _) | (with_reducible refine Kd.C_drew ?_)));(case side4 => exact HC0_2.out);rintro e w38 ⟨rfl,hb⟩;refine ⟨_,rfl,?_⟩;have n0_:=Aside0.mk (Kd.V_below (vV HO1.out) hb);have n1_:=Aside0.mk (blk_below (g:=gb747) (o:=.cells #[.slice A0_0 l0_0.length c0_0,.int .u64 a0_1,.slice A0_2 l0_2.length c0_2] 59 (0,0)) (vK BK747.out) hb);have n2_:=Aside0.mk (below_step (vBg HB.out GE747.out) hb);clear HO1;clear BK747;clear HB;have HO1:=n0_;have BK747:=n1_;have HB:=n2_;clear n0_ n1_ n2_;(try clear hb);(try clear hb2);(try clear hk);(try clear hi)))
  go_ret2
  exact ⟨_,by first | rfl | (simp [errW_none,errW_some] <;> rfl) | (simp [*,errW_none,errW_some] <;> rfl),by first | exact Kd.R_nil _ _ _ _ _ | exact Kd.N_nil _ _ _ _ _ | exact Kd.V_nil _ _ _ _ _ | exact Kd.Q_nil _ _ _ _ _ | exact Kd.S_nil _ _ _ _ _,by repeat (first | (with_reducible first | exact HB.out | apply below_alloc | apply pw_below_drewN | apply below_drew1 | refine below_set ?_ GE747.out) | exact HB.out)⟩
def sconceref03_SubMod.f (k:Nat) (l0:List Int) (l1:List Int) (l2:List Int):Option (List Int):=(sconceref03_Cmp.f k l0 l1).bind fun t766 => (if t766 ≥ 0 then ((sconceref03_Sub.f k l0 l1).bind fun t767 => (some t767)) else ((sconceref03_Add.f k l0 l2).bind fun t770 => ((sconceref03_Sub.f k t770 l1).bind fun t773 => (some t773))))
theorem sconceref03_SubMod.calls (k:Nat) (A0:Option Addr) (c0:Nat) (l0:List Int) (A1:Option Addr) (c1:Nat) (l1:List Int) (A2:Option Addr) (c2:Nat) (l2:List Int) (r:List Int) (w:World) (hr0:Kd.C (Kd.int .u32) w A0 l0.length l0) (hc0:l0.length≤c0) (hr1:Kd.C (Kd.int .u32) w A1 l1.length l1) (hc1:l1.length≤c1) (hr2:Kd.C (Kd.int .u32) w A2 l2.length l2) (hc2:l2.length≤c2) (h:sconceref03_SubMod.f k l0 l1 l2 = some r) :
  Calls Try.prog 117 #[.slice A0 l0.length c0,.slice A1 l1.length c1,.slice A2 l2.length c2] w fun e w' => ∃ v0_:Value,e = .returned (v0_)∧Kd.V (Kd.int .u32) 78 w' w.heap.size (fun k_ => (w.heap.size≤k_)) v0_ r∧Below w.heap.size w w':=by
 have HR0:=Aside0.mk hr0
 have HC0:=Aside0.mk hc0
 clear hr0 hc0
 have HR1:=Aside0.mk hr1
 have HC1:=Aside0.mk hc1
 clear hr1 hc1
 have HR2:=Aside0.mk hr2
 have HC2:=Aside0.mk hc2
 clear hr2 hc2
 have HB:=Aside0.mk (Below.refl w.heap.size w)
 have H:((sconceref03_Cmp.f k l0 l1).bind fun t766 => (if t766 ≥ 0 then ((sconceref03_Sub.f k l0 l1).bind fun t767 => (some t767)) else ((sconceref03_Add.f k l0 l2).bind fun t770 => ((sconceref03_Sub.f k t770 l1).bind fun t773 => (some t773))))) = some r:=h
 clear h
 replace H:=Option.bind_eq_some_iff.mp H
 obtain ⟨t766,A40,H⟩:=H
 replace H:(if t766 ≥ 0 then ((sconceref03_Sub.f k l0 l1).bind fun t767 => (some t767)) else ((sconceref03_Add.f k l0 l2).bind fun t770 => ((sconceref03_Sub.f k t770 l1).bind fun t773 => (some t773)))) = some r:=H
 have A4:=Aside0.mk A40
 clear A40
 by_cases c5:t766 ≥ 0
 ·
  rw [if_pos c5] at H
  have c5b0:decide (0≤t766) = true:=decide_eq_true c5
  clear c5
  replace H:=Option.bind_eq_some_iff.mp H
  obtain ⟨t767,A60,H⟩:=H
  replace H:(some t767) = some r:=H
  have A6:=Aside0.mk A60
  clear A60
  obtain rfl:=Option.some.inj H
  go_enter Try.func117,Try.ntmps117
  go_wp2_with (first | ((with_reducible refine gate_callee (f:=24) rfl ?_);refine goesL_ (some 9) rfl rfl Try.func24 (by kernel_rfl) rfl #[.slice A0 l0.length c0,.slice A1 l1.length c1] rfl vA ?_;(with_reducible refine (sconceref03_Cmp.calls k _ _ l0 _ _ l1 t766 _ ?side1 ?side2 ?side3 ?side4 A4.out).mono ?_);(case side1 => repeat (first | exact HR0.out | (with_reducible refine Kd.C_alloc ?_ _) | (with_reducible refine Kd.C_drewN ?_ _) | (with_reducible refine Kd.C_drew ?_)));(case side2 => exact HC0.out);(case side3 => repeat (first | exact HR1.out | (with_reducible refine Kd.C_alloc ?_ _) | (with_reducible refine Kd.C_drewN ?_ _) | (with_reducible refine Kd.C_drew ?_)));(case side4 => exact HC1.out);rintro e w' ⟨rfl,⟨nd,rfl⟩⟩;refine ⟨_,rfl,?_⟩) | ((with_reducible refine gate_callee (f:=119) rfl ?_);refine goesL_ (some 13) rfl rfl Try.func119 (by kernel_rfl) rfl #[.slice A0 l0.length c0,.slice A1 l1.length c1] rfl vA ?_;(with_reducible refine (sconceref03_Sub.calls k _ _ l0 _ _ l1 t767 _ ?side1 ?side2 ?side3 ?side4 A6.out).mono ?_);(case side1 => repeat (first | exact HR0.out | (with_reducible refine Kd.C_alloc ?_ _) | (with_reducible refine Kd.C_drewN ?_ _) | (with_reducible refine Kd.C_drew ?_)));(case side2 => exact HC0.out);(case side3 => repeat (first | exact HR1.out | (with_reducible refine Kd.C_alloc ?_ _) | (with_reducible refine Kd.C_drewN ?_ _) | (with_reducible refine Kd.C_drew ?_)));(case side4 => exact HC1.out);rintro e w7 ⟨v768,rfl,ho0,hb⟩;refine ⟨_,rfl,?_⟩;have n0_:=Aside0.mk (Kd.V_lower (Kd.V_mono (ok':=fun k_ => (w.heap.size≤k_)) ho0 (fun k_ hk_ => (Nat.le_trans (below_size (vB HB.out)) hk_))) (below_size (vB HB.out)));have n1_:=Aside0.mk (below_step (vB HB.out) hb);clear HB;have HO769:=n0_;have HB:=n1_;clear n0_ n1_;(try clear hb);(try clear hb2);(try clear hk);(try clear hi);(try clear ho0)))
  go_ret
  exact ⟨_,by first | rfl | (simp [errW_none,errW_some] <;> rfl) | (simp [*,errW_none,errW_some] <;> rfl),by (with_reducible repeat (first | apply Kd.V_alloc | apply Kd.V_drewN | apply Kd.V_drew));exact HO769.out,by repeat (first | (with_reducible first | exact HB.out | apply below_alloc | apply pw_below_drewN | apply below_drew1) | exact HB.out)⟩
 ·
  rw [if_neg c5] at H
  have c5b0:decide (0≤t766) = false:=decide_eq_false c5
  clear c5
  replace H:=Option.bind_eq_some_iff.mp H
  obtain ⟨t770,A80,H⟩:=H
  replace H:((sconceref03_Sub.f k t770 l1).bind fun t773 => (some t773)) = some r:=H
  have A8:=Aside0.mk A80
  clear A80
  replace H:=Option.bind_eq_some_iff.mp H
  obtain ⟨t773,A90,H⟩:=H
  replace H:(some t773) = some r:=H
  have A9:=Aside0.mk A90
  clear A90
  obtain rfl:=Option.some.inj H
  go_enter Try.func117,Try.ntmps117
  go_wp2_with (first | ((with_reducible refine gate_callee (f:=24) rfl ?_);refine goesL_ (some 9) rfl rfl Try.func24 (by kernel_rfl) rfl #[.slice A0 l0.length c0,.slice A1 l1.length c1] rfl vA ?_;(with_reducible refine (sconceref03_Cmp.calls k _ _ l0 _ _ l1 t766 _ ?side1 ?side2 ?side3 ?side4 A4.out).mono ?_);(case side1 => repeat (first | exact HR0.out | (with_reducible refine Kd.C_alloc ?_ _) | (with_reducible refine Kd.C_drewN ?_ _) | (with_reducible refine Kd.C_drew ?_)));(case side2 => exact HC0.out);(case side3 => repeat (first | exact HR1.out | (with_reducible refine Kd.C_alloc ?_ _) | (with_reducible refine Kd.C_drewN ?_ _) | (with_reducible refine Kd.C_drew ?_)));(case side4 => exact HC1.out);rintro e w' ⟨rfl,⟨nd,rfl⟩⟩;refine ⟨_,rfl,?_⟩) | ((with_reducible refine gate_callee (f:=22) rfl ?_);refine goesL_ (some 16) rfl rfl Try.func22 (by kernel_rfl) rfl #[.slice A0 l0.length c0,.slice A2 l2.length c2] rfl vA ?_;(with_reducible refine (sconceref03_Add.calls k _ _ l0 _ _ l2 t770 _ ?side1 ?side2 ?side3 ?side4 A8.out).mono ?_);(case side1 => repeat (first | exact HR0.out | (with_reducible refine Kd.C_alloc ?_ _) | (with_reducible refine Kd.C_drewN ?_ _) | (with_reducible refine Kd.C_drew ?_)));(case side2 => exact HC0.out);(case side3 => repeat (first | exact HR2.out | (with_reducible refine Kd.C_alloc ?_ _) | (with_reducible refine Kd.C_drewN ?_ _) | (with_reducible refine Kd.C_drew ?_)));(case side4 => exact HC2.out);rintro e w10 ⟨v771,rfl,ho0,hb⟩;refine ⟨_,rfl,?_⟩;have n0_:=Aside0.mk (Kd.V_lower (Kd.V_mono (ok':=fun k_ => (w.heap.size≤k_)) ho0 (fun k_ hk_ => (Nat.le_trans (below_size (vB HB.out)) hk_))) (below_size (vB HB.out)));have n1_:=Aside0.mk (below_step (vB HB.out) hb);clear HB;have HO772:=n0_;have HB:=n1_;clear n0_ n1_;(try clear hb);(try clear hb2);(try clear hk);(try clear hi);(try clear ho0);obtain ⟨Ao11,co11,eo11⟩:=Kd.V_slice HO772.out;subst eo11) | ((with_reducible refine gate_callee (f:=119) rfl ?_);refine goesL_ (some 18) rfl rfl Try.func119 (by kernel_rfl) rfl #[.slice Ao11 t770.length co11,.slice A1 l1.length c1] rfl vA ?_;(with_reducible refine (sconceref03_Sub.calls k _ _ t770 _ _ l1 t773 _ ?side1 ?side2 ?side3 ?side4 A9.out).mono ?_);(case side1 => repeat (first | exact (Kd.V_reads' HO772.out).2.2 | (with_reducible refine Kd.C_alloc ?_ _) | (with_reducible refine Kd.C_drewN ?_ _) | (with_reducible refine Kd.C_drew ?_)));(case side2 => exact (Kd.V_reads' HO772.out).2.1);(case side3 => repeat (first | exact (Kd.C_below HR1.out HB.out) | (with_reducible refine Kd.C_alloc ?_ _) | (with_reducible refine Kd.C_drewN ?_ _) | (with_reducible refine Kd.C_drew ?_)));(case side4 => exact HC1.out);rintro e w12 ⟨v774,rfl,ho0,hb⟩;refine ⟨_,rfl,?_⟩;have n0_:=Aside0.mk (Kd.V_below (vV HO772.out) hb);have n1_:=Aside0.mk (Kd.V_lower (Kd.V_mono (ok':=fun k_ => (w.heap.size≤k_)) ho0 (fun k_ hk_ => (Nat.le_trans (below_size (vB HB.out)) hk_))) (below_size (vB HB.out)));have n2_:=Aside0.mk (below_step (vB HB.out) hb);clear HO772;clear HB;have HO772:=n0_;have HO775:=n1_;have HB:=n2_;clear n0_ n1_ n2_;(try clear hb);(try clear hb2);(try clear hk);(try clear hi);(try clear ho0)))
  go_ret
  exact ⟨_,by first | rfl | (simp [errW_none,errW_some] <;> rfl) | (simp [*,errW_none,errW_some] <;> rfl),by (with_reducible repeat (first | apply Kd.V_alloc | apply Kd.V_drewN | apply Kd.V_drew));exact HO775.out,by repeat (first | (with_reducible first | exact HB.out | apply below_alloc | apply pw_below_drewN | apply below_drew1) | exact HB.out)⟩
def sconceref03_Inverse.l0:Nat→List Int→List Int→List Int→List Int→List Int→Option (List Int × Bool)
 | 0,_,_,_,_,_ => none
 | k + 1,x1,x6,x7,x8,x9 => if (x7.length:Int) > 0 then ((sconceref03_DivMod.f x6 x7).bind fun bt782 => ((sconceref03_MulMod.f k bt782.1 x9 x1).bind fun t788 => ((sconceref03_SubMod.f k x8 t788 x1).bind fun t791 => (sconceref03_Inverse.l0 k x1 x7 bt782.2 x9 t791)))) else ((sconceref03_Small.f k 1).bind fun t794 => ((sconceref03_Cmp.f k x6 t794).bind fun t797 => (if t797 = 0 then (some (x8,true)) else (some (([]:List Int),false)))))
def sconceref03_Inverse.f (k:Nat) (l0:List Int) (l1:List Int):Option (List Int × Bool):=(sconceref03_Mod.f l0 l1).bind fun t776 => ((sconceref03_Small.f k 1).bind fun t779 => (sconceref03_Inverse.l0 k l1 l1 t776 ([]:List Int) t779))
theorem sconceref03_Inverse.calls (k:Nat) (P0_:Nat→Prop) (A0:Option Addr) (c0:Nat) (l0:List Int) (P1_:Nat→Prop) (A1:Option Addr) (c1:Nat) (l1:List Int) (r1:List Int) (r2:Bool) (w:World) (hs0:Kd.V (Kd.int .u32) 78 w w.heap.size (fun k_ => P0_ k_) (.slice A0 l0.length c0) l0) (hs1:Kd.V (Kd.int .u32) 78 w w.heap.size (fun k_ => P1_ k_) (.slice A1 l1.length c1) l1) (h:sconceref03_Inverse.f k l0 l1 = some (r1,r2)) :
  Calls Try.prog 111 #[.slice A0 l0.length c0,.slice A1 l1.length c1] w fun e w' => ∃ v0_:Value,e = .returned (.tuple #[v0_,.bool r2])∧Kd.V (Kd.int .u32) 78 w' w.heap.size (fun k_ => ((P0_ k_∨P1_ k_)∨w.heap.size≤k_)) v0_ r1∧Below w.heap.size w w':=by
 have HO0:=Aside0.mk (show Kd.V (Kd.int .u32) 78 w w.heap.size (fun k_ => ((P0_ k_∨P1_ k_)∨w.heap.size≤k_)) (.slice A0 l0.length c0) l0 from Kd.V_mono hs0 (fun k_ hk => .inl (.inl hk)))
 have HO1:=Aside0.mk (show Kd.V (Kd.int .u32) 78 w w.heap.size (fun k_ => ((P0_ k_∨P1_ k_)∨w.heap.size≤k_)) (.slice A1 l1.length c1) l1 from Kd.V_mono hs1 (fun k_ hk => .inl (.inr hk)))
 have HB:=Aside0.mk (Below.refl w.heap.size w)
 have H:((sconceref03_Mod.f l0 l1).bind fun t776 => ((sconceref03_Small.f k 1).bind fun t779 => (sconceref03_Inverse.l0 k l1 l1 t776 ([]:List Int) t779))) = some (r1,r2):=h
 clear h
 replace H:=Option.bind_eq_some_iff.mp H
 obtain ⟨t776,A30,H⟩:=H
 replace H:((sconceref03_Small.f k 1).bind fun t779 => (sconceref03_Inverse.l0 k l1 l1 t776 ([]:List Int) t779)) = some (r1,r2):=H
 have A3:=Aside0.mk A30
 clear A30
 replace H:=Option.bind_eq_some_iff.mp H
 obtain ⟨t779,A40,H⟩:=H
 replace H:(sconceref03_Inverse.l0 k l1 l1 t776 ([]:List Int) t779) = some (r1,r2):=H
 have A4:=Aside0.mk A40
 clear A40
 have H':=Aside0.mk H
 clear H
 go_enter Try.func111,Try.ntmps111
 go_wp2_with (first | ((with_reducible refine gate_callee (f:=78) rfl ?_);refine goesL_ (some 15) rfl rfl Try.func78 (by kernel_rfl) rfl #[.slice A0 l0.length c0,.slice A1 l1.length c1] rfl vA ?_;(with_reducible refine (sconceref03_Mod.calls (fun k_ => ((P0_ k_∨P1_ k_)∨w.heap.size≤k_)) _ _ l0 _ _ l1 t776 _ ?side1 ?side2 ?side3 A3.out).mono ?_);(case side1 => exact HO0.out);(case side2 => repeat (first | exact (Kd.V_reads' HO1.out).2.2 | (with_reducible refine Kd.C_alloc ?_ _) | (with_reducible refine Kd.C_drewN ?_ _) | (with_reducible refine Kd.C_drew ?_)));(case side3 => exact (Kd.V_reads' HO1.out).2.1);rintro e w5 ⟨v777,rfl,ho0,hb⟩;refine ⟨_,rfl,?_⟩;have n0_:=Aside0.mk (Kd.V_below (vV HO0.out) hb);have n1_:=Aside0.mk (Kd.V_below (vV HO1.out) hb);have n2_:=Aside0.mk (Kd.V_lower (Kd.V_mono (ok':=fun k_ => ((P0_ k_∨P1_ k_)∨w.heap.size≤k_)) ho0 (fun k_ hk_ => Or.elim hk_ (fun hs_ => hs_) (fun hn_ => (.inr (Nat.le_trans (below_size (vB HB.out)) hn_))))) (below_size (vB HB.out)));have n3_:=Aside0.mk (below_step (vB HB.out) hb);clear HO0;clear HO1;clear HB;have HO0:=n0_;have HO1:=n1_;have HO778:=n2_;have HB:=n3_;clear n0_ n1_ n2_ n3_;(try clear hb);(try clear hb2);(try clear hk);(try clear hi);(try clear ho0)) | ((with_reducible refine gate_callee (f:=55) rfl ?_);refine goesL_ (some 16) rfl rfl Try.func55 (by kernel_rfl) rfl #[.int .u64 1] rfl vA ?_;(with_reducible refine (sconceref03_Small.calls k 1 t779 _ A4.out).mono ?_);rintro e w6 ⟨v780,rfl,ho0,hb⟩;refine ⟨_,rfl,?_⟩;have n0_:=Aside0.mk (Kd.V_below (vV HO0.out) hb);have n1_:=Aside0.mk (Kd.V_below (vV HO1.out) hb);have n2_:=Aside0.mk (Kd.V_below (vV HO778.out) hb);have n3_:=Aside0.mk (Kd.V_lower (Kd.V_mono (ok':=fun k_ => ((P0_ k_∨P1_ k_)∨w.heap.size≤k_)) ho0 (fun k_ hk_ => (.inr (Nat.le_trans (below_size (vB HB.out)) hk_)))) (below_size (vB HB.out)));have n4_:=Aside0.mk (below_step (vB HB.out) hb);clear HO0;clear HO1;clear HO778;clear HB;have HO0:=n0_;have HO1:=n1_;have HO778:=n2_;have HO781:=n3_;have HB:=n4_;clear n0_ n1_ n2_ n3_ n4_;(try clear hb);(try clear hb2);(try clear hk);(try clear hi);(try clear ho0)))
 go_loopg [6,7,8,9] k (fun kq v6 v7 v8 v9 w' => ∃ (x6_1:List Int) (x7_1:List Int) (x8_1:List Int) (x9_1:List Int),Aside0 (sconceref03_Inverse.l0 kq l1 x6_1 x7_1 x8_1 x9_1 = some (r1,r2))∧Aside0 (kq≤k)∧Aside0 (Kd.V (Kd.int .u32) 78 w' w.heap.size (fun k_ => ((P0_ k_∨P1_ k_)∨w.heap.size≤k_)) (.slice A1 l1.length c1) l1)∧Aside0 (Kd.V (Kd.int .u32) 78 w' w.heap.size (fun k_ => ((P0_ k_∨P1_ k_)∨w.heap.size≤k_)) v6 x6_1)∧Aside0 (Kd.V (Kd.int .u32) 78 w' w.heap.size (fun k_ => ((P0_ k_∨P1_ k_)∨w.heap.size≤k_)) v7 x7_1)∧Aside0 (Kd.V (Kd.int .u32) 78 w' w.heap.size (fun k_ => ((P0_ k_∨P1_ k_)∨w.heap.size≤k_)) v8 x8_1)∧Aside0 (Kd.V (Kd.int .u32) 78 w' w.heap.size (fun k_ => ((P0_ k_∨P1_ k_)∨w.heap.size≤k_)) v9 x9_1)∧Aside0 (Below w.heap.size w w'))
 case atStart => exact ⟨(l1),(t776),(([]:List Int)),(t779),H',⟨Nat.le_refl _⟩,⟨by (with_reducible repeat (first | apply Kd.V_alloc | apply Kd.V_drewN | apply Kd.V_drew));exact HO1.out⟩,⟨by (with_reducible repeat (first | apply Kd.V_alloc | apply Kd.V_drewN | apply Kd.V_drew));exact HO1.out⟩,⟨by (with_reducible repeat (first | apply Kd.V_alloc | apply Kd.V_drewN | apply Kd.V_drew));exact HO778.out⟩,⟨Kd.V_nil _ _ _ _ _⟩,⟨by (with_reducible repeat (first | apply Kd.V_alloc | apply Kd.V_drewN | apply Kd.V_drew));exact HO781.out⟩,⟨by repeat (first | (with_reducible first | exact HB.out | apply below_alloc | apply pw_below_drewN | apply below_drew1) | exact HB.out)⟩⟩
 case round =>
  clear H'
  try clear c1
  try clear p2
  try clear c5
  obtain ⟨x6_1,x7_1,x8_1,x9_1,HA,HK1,HO_1,HO_6,HO_7,HO_8,HO_9,HB⟩:=hrel
  cases gk with
  | zero => exact absurd HA.out (by simp [sconceref03_Inverse.l0])
  | succ k1 =>
   have H:=HA.out
   clear HA
   simp only [sconceref03_Inverse.l0] at H
   by_cases c7:(x7_1.length:Int) > 0
   ·
    rw [if_pos c7] at H
    have c7b0:decide (0 < (x7_1.length:Int)) = true:=decide_eq_true c7
    have c7b1:decide (0 < x7_1.length) = true:=decide_eq_true (by omega)
    clear c7
    replace H:=Option.bind_eq_some_iff.mp H
    obtain ⟨⟨t782,t785⟩,A80,H⟩:=H
    replace H:((sconceref03_MulMod.f k1 t782 x9_1 l1).bind fun t788 => ((sconceref03_SubMod.f k1 x8_1 t788 l1).bind fun t791 => (sconceref03_Inverse.l0 k1 l1 x7_1 t785 x9_1 t791))) = some (r1,r2):=H
    have A8:=Aside0.mk A80
    clear A80
    replace H:=Option.bind_eq_some_iff.mp H
    obtain ⟨t788,A90,H⟩:=H
    replace H:((sconceref03_SubMod.f k1 x8_1 t788 l1).bind fun t791 => (sconceref03_Inverse.l0 k1 l1 x7_1 t785 x9_1 t791)) = some (r1,r2):=H
    have A9:=Aside0.mk A90
    clear A90
    replace H:=Option.bind_eq_some_iff.mp H
    obtain ⟨t791,A100,H⟩:=H
    replace H:(sconceref03_Inverse.l0 k1 l1 x7_1 t785 x9_1 t791) = some (r1,r2):=H
    have A10:=Aside0.mk A100
    clear A100
    have H':=Aside0.mk H
    clear H
    obtain ⟨Ao11,co11,eo11⟩:=Kd.V_slice HO_7.out
    subst eo11
    obtain ⟨Ao12,co12,eo12⟩:=Kd.V_slice HO_6.out
    subst eo12
    go_wp2_with (first | ((with_reducible refine gate_callee (f:=70) rfl ?_);refine goesL_ (some 23) rfl rfl Try.func70 (by kernel_rfl) rfl #[.slice Ao12 x6_1.length co12,.slice Ao11 x7_1.length co11] rfl vA ?_;(with_reducible refine (sconceref03_DivMod.calls (fun k_ => ((P0_ k_∨P1_ k_)∨w.heap.size≤k_)) _ _ x6_1 _ _ x7_1 t782 t785 _ ?side1 ?side2 ?side3 A8.out).mono ?_);(case side1 => exact HO_6.out);(case side2 => repeat (first | exact (Kd.V_reads' HO_7.out).2.2 | (with_reducible refine Kd.C_alloc ?_ _) | (with_reducible refine Kd.C_drewN ?_ _) | (with_reducible refine Kd.C_drew ?_)));(case side3 => exact (Kd.V_reads' HO_7.out).2.1);rintro e w13 ⟨v783,v786,rfl,ho0,ho1,hb⟩;refine ⟨_,rfl,?_⟩;have n0_:=Aside0.mk (Kd.V_below (vV HO_1.out) hb);have n1_:=Aside0.mk (Kd.V_below (vV HO_6.out) hb);have n2_:=Aside0.mk (Kd.V_below (vV HO_7.out) hb);have n3_:=Aside0.mk (Kd.V_below (vV HO_8.out) hb);have n4_:=Aside0.mk (Kd.V_below (vV HO_9.out) hb);have n5_:=Aside0.mk (Kd.V_lower (Kd.V_mono (ok':=fun k_ => ((P0_ k_∨P1_ k_)∨w.heap.size≤k_)) ho0 (fun k_ hk_ => Or.elim hk_ (fun hs_ => hs_) (fun hn_ => (.inr (Nat.le_trans (below_size (vB HB.out)) hn_))))) (below_size (vB HB.out)));have n6_:=Aside0.mk (Kd.V_lower (Kd.V_mono (ok':=fun k_ => ((P0_ k_∨P1_ k_)∨w.heap.size≤k_)) ho1 (fun k_ hk_ => Or.elim hk_ (fun hs_ => hs_) (fun hn_ => (.inr (Nat.le_trans (below_size (vB HB.out)) hn_))))) (below_size (vB HB.out)));have n7_:=Aside0.mk (below_step (vB HB.out) hb);clear HO_1;clear HO_6;clear HO_7;clear HO_8;clear HO_9;clear HB;have HO_1:=n0_;have HO_6:=n1_;have HO_7:=n2_;have HO_8:=n3_;have HO_9:=n4_;have HO784:=n5_;have HO787:=n6_;have HB:=n7_;clear n0_ n1_ n2_ n3_ n4_ n5_ n6_ n7_;(try clear hb);(try clear hb2);(try clear hk);(try clear hi);(try clear ho0);(try clear ho1);obtain ⟨Ao14,co14,eo14⟩:=Kd.V_slice HO784.out;subst eo14;obtain ⟨Ao15,co15,eo15⟩:=Kd.V_slice HO_9.out;subst eo15) | ((with_reducible refine gate_callee (f:=46) rfl ?_);refine goesL_ (some 31) rfl rfl Try.func46 (by kernel_rfl) rfl #[.slice Ao14 t782.length co14,.slice Ao15 x9_1.length co15,.slice A1 l1.length c1] rfl vA ?_;(with_reducible refine (sconceref03_MulMod.calls k1 _ _ t782 _ _ x9_1 _ _ l1 t788 _ ?side1 ?side2 ?side3 ?side4 ?side5 ?side6 A9.out).mono ?_);(case side1 => repeat (first | exact (Kd.V_reads' HO784.out).2.2 | (with_reducible refine Kd.C_alloc ?_ _) | (with_reducible refine Kd.C_drewN ?_ _) | (with_reducible refine Kd.C_drew ?_)));(case side2 => exact (Kd.V_reads' HO784.out).2.1);(case side3 => repeat (first | exact (Kd.V_reads' HO_9.out).2.2 | (with_reducible refine Kd.C_alloc ?_ _) | (with_reducible refine Kd.C_drewN ?_ _) | (with_reducible refine Kd.C_drew ?_)));(case side4 => exact (Kd.V_reads' HO_9.out).2.1);(case side5 => repeat (first | exact (Kd.V_reads' HO_1.out).2.2 | (with_reducible refine Kd.C_alloc ?_ _) | (with_reducible refine Kd.C_drewN ?_ _) | (with_reducible refine Kd.C_drew ?_)));(case side6 => exact (Kd.V_reads' HO_1.out).2.1);rintro e w16 ⟨v789,rfl,ho0,hb⟩;refine ⟨_,rfl,?_⟩;have n0_:=Aside0.mk (Kd.V_below (vV HO_1.out) hb);have n1_:=Aside0.mk (Kd.V_below (vV HO_6.out) hb);have n2_:=Aside0.mk (Kd.V_below (vV HO_7.out) hb);have n3_:=Aside0.mk (Kd.V_below (vV HO_8.out) hb);have n4_:=Aside0.mk (Kd.V_below (vV HO_9.out) hb);have n5_:=Aside0.mk (Kd.V_below (vV HO784.out) hb);have n6_:=Aside0.mk (Kd.V_below (vV HO787.out) hb);have n7_:=Aside0.mk (Kd.V_lower (Kd.V_mono (ok':=fun k_ => ((P0_ k_∨P1_ k_)∨w.heap.size≤k_)) ho0 (fun k_ hk_ => (.inr (Nat.le_trans (below_size (vB HB.out)) hk_)))) (below_size (vB HB.out)));have n8_:=Aside0.mk (below_step (vB HB.out) hb);clear HO_1;clear HO_6;clear HO_7;clear HO_8;clear HO_9;clear HO784;clear HO787;clear HB;have HO_1:=n0_;have HO_6:=n1_;have HO_7:=n2_;have HO_8:=n3_;have HO_9:=n4_;have HO784:=n5_;have HO787:=n6_;have HO790:=n7_;have HB:=n8_;clear n0_ n1_ n2_ n3_ n4_ n5_ n6_ n7_ n8_;(try clear hb);(try clear hb2);(try clear hk);(try clear hi);(try clear ho0);obtain ⟨Ao17,co17,eo17⟩:=Kd.V_slice HO_8.out;subst eo17;obtain ⟨Ao18,co18,eo18⟩:=Kd.V_slice HO790.out;subst eo18) | ((with_reducible refine gate_callee (f:=117) rfl ?_);refine goesL_ (some 33) rfl rfl Try.func117 (by kernel_rfl) rfl #[.slice Ao17 x8_1.length co17,.slice Ao18 t788.length co18,.slice A1 l1.length c1] rfl vA ?_;(with_reducible refine (sconceref03_SubMod.calls k1 _ _ x8_1 _ _ t788 _ _ l1 t791 _ ?side1 ?side2 ?side3 ?side4 ?side5 ?side6 A10.out).mono ?_);(case side1 => repeat (first | exact (Kd.V_reads' HO_8.out).2.2 | (with_reducible refine Kd.C_alloc ?_ _) | (with_reducible refine Kd.C_drewN ?_ _) | (with_reducible refine Kd.C_drew ?_)));(case side2 => exact (Kd.V_reads' HO_8.out).2.1);(case side3 => repeat (first | exact (Kd.V_reads' HO790.out).2.2 | (with_reducible refine Kd.C_alloc ?_ _) | (with_reducible refine Kd.C_drewN ?_ _) | (with_reducible refine Kd.C_drew ?_)));(case side4 => exact (Kd.V_reads' HO790.out).2.1);(case side5 => repeat (first | exact (Kd.V_reads' HO_1.out).2.2 | (with_reducible refine Kd.C_alloc ?_ _) | (with_reducible refine Kd.C_drewN ?_ _) | (with_reducible refine Kd.C_drew ?_)));(case side6 => exact (Kd.V_reads' HO_1.out).2.1);rintro e w19 ⟨v792,rfl,ho0,hb⟩;refine ⟨_,rfl,?_⟩;have n0_:=Aside0.mk (Kd.V_below (vV HO_1.out) hb);have n1_:=Aside0.mk (Kd.V_below (vV HO_6.out) hb);have n2_:=Aside0.mk (Kd.V_below (vV HO_7.out) hb);have n3_:=Aside0.mk (Kd.V_below (vV HO_8.out) hb);have n4_:=Aside0.mk (Kd.V_below (vV HO_9.out) hb);have n5_:=Aside0.mk (Kd.V_below (vV HO784.out) hb);have n6_:=Aside0.mk (Kd.V_below (vV HO787.out) hb);have n7_:=Aside0.mk (Kd.V_below (vV HO790.out) hb);have n8_:=Aside0.mk (Kd.V_lower (Kd.V_mono (ok':=fun k_ => ((P0_ k_∨P1_ k_)∨w.heap.size≤k_)) ho0 (fun k_ hk_ => (.inr (Nat.le_trans (below_size (vB HB.out)) hk_)))) (below_size (vB HB.out)));have n9_:=Aside0.mk (below_step (vB HB.out) hb);clear HO_1;clear HO_6;clear HO_7;clear HO_8;clear HO_9;clear HO784;clear HO787;clear HO790;clear HB;have HO_1:=n0_;have HO_6:=n1_;have HO_7:=n2_;have HO_8:=n3_;have HO_9:=n4_;have HO784:=n5_;have HO787:=n6_;have HO790:=n7_;have HO793:=n8_;have HB:=n9_;clear n0_ n1_ n2_ n3_ n4_ n5_ n6_ n7_ n8_ n9_;(try clear hb);(try clear hb2);(try clear hk);(try clear hi);(try clear ho0)))
    go_roundg k1
    case measure => have:=HK1.out;omega
    case rel => exact ⟨(x7_1),(t785),(x9_1),(t791),H',⟨by have:=HK1.out;omega⟩,⟨by (with_reducible repeat (first | apply Kd.V_alloc | apply Kd.V_drewN | apply Kd.V_drew));exact HO_1.out⟩,⟨by (with_reducible repeat (first | apply Kd.V_alloc | apply Kd.V_drewN | apply Kd.V_drew));exact HO_7.out⟩,⟨by (with_reducible repeat (first | apply Kd.V_alloc | apply Kd.V_drewN | apply Kd.V_drew));exact HO787.out⟩,⟨by (with_reducible repeat (first | apply Kd.V_alloc | apply Kd.V_drewN | apply Kd.V_drew));exact HO_9.out⟩,⟨by (with_reducible repeat (first | apply Kd.V_alloc | apply Kd.V_drewN | apply Kd.V_drew));exact HO793.out⟩,⟨by repeat (first | (with_reducible first | exact HB.out | apply below_alloc | apply pw_below_drewN | apply below_drew1) | exact HB.out)⟩⟩
   ·
    rw [if_neg c7] at H
    have c7b0:decide (0 < (x7_1.length:Int)) = false:=decide_eq_false c7
    have c7b1:decide (0 < x7_1.length) = false:=decide_eq_false (by omega)
    clear c7
    replace H:=Option.bind_eq_some_iff.mp H
    obtain ⟨t794,A200,H⟩:=H
    replace H:((sconceref03_Cmp.f k1 x6_1 t794).bind fun t797 => (if t797 = 0 then (some (x8_1,true)) else (some (([]:List Int),false)))) = some (r1,r2):=H
    have A20:=Aside0.mk A200
    clear A200
    replace H:=Option.bind_eq_some_iff.mp H
    obtain ⟨t797,A210,H⟩:=H
    replace H:(if t797 = 0 then (some (x8_1,true)) else (some (([]:List Int),false))) = some (r1,r2):=H
    have A21:=Aside0.mk A210
    clear A210
    by_cases c22:t797 = 0
    ·
     rw [if_pos c22] at H
     have c22b0:(t797 == 0) = true:=beq_iff_eq.mpr c22
     have c22b1:(t797 != 0) = false:=bne_eq_false_iff_eq.mpr c22
     clear c22
     simp only [Option.some.injEq,Prod.mk.injEq] at H
     obtain ⟨rfl,rfl⟩:=H
     obtain ⟨Ao23,co23,eo23⟩:=Kd.V_slice HO_7.out
     subst eo23
     go_wp2_with (first | ((with_reducible refine gate_callee (f:=55) rfl ?_);refine goesL_ (some 37) rfl rfl Try.func55 (by kernel_rfl) rfl #[.int .u64 1] rfl vA ?_;(with_reducible refine (sconceref03_Small.calls k1 1 t794 _ A20.out).mono ?_);rintro e w24 ⟨v795,rfl,ho0,hb⟩;refine ⟨_,rfl,?_⟩;have n0_:=Aside0.mk (Kd.V_below (vV HO_1.out) hb);have n1_:=Aside0.mk (Kd.V_below (vV HO_6.out) hb);have n2_:=Aside0.mk (Kd.V_below (vV HO_7.out) hb);have n3_:=Aside0.mk (Kd.V_below (vV HO_8.out) hb);have n4_:=Aside0.mk (Kd.V_below (vV HO_9.out) hb);have n5_:=Aside0.mk (Kd.V_lower (Kd.V_mono (ok':=fun k_ => ((P0_ k_∨P1_ k_)∨w.heap.size≤k_)) ho0 (fun k_ hk_ => (.inr (Nat.le_trans (below_size (vB HB.out)) hk_)))) (below_size (vB HB.out)));have n6_:=Aside0.mk (below_step (vB HB.out) hb);clear HO_1;clear HO_6;clear HO_7;clear HO_8;clear HO_9;clear HB;have HO_1:=n0_;have HO_6:=n1_;have HO_7:=n2_;have HO_8:=n3_;have HO_9:=n4_;have HO796:=n5_;have HB:=n6_;clear n0_ n1_ n2_ n3_ n4_ n5_ n6_;(try clear hb);(try clear hb2);(try clear hk);(try clear hi);(try clear ho0);obtain ⟨Ao25,co25,eo25⟩:=Kd.V_slice HO_6.out;subst eo25;obtain ⟨Ao26,co26,eo26⟩:=Kd.V_slice HO796.out;subst eo26) | ((with_reducible refine gate_callee (f:=24) rfl ?_);refine goesL_ (some 38) rfl rfl Try.func24 (by kernel_rfl) rfl #[.slice Ao25 x6_1.length co25,.slice Ao26 t794.length co26] rfl vA ?_;(with_reducible refine (sconceref03_Cmp.calls k1 _ _ x6_1 _ _ t794 t797 _ ?side1 ?side2 ?side3 ?side4 A21.out).mono ?_);(case side1 => repeat (first | exact (Kd.V_reads' HO_6.out).2.2 | (with_reducible refine Kd.C_alloc ?_ _) | (with_reducible refine Kd.C_drewN ?_ _) | (with_reducible refine Kd.C_drew ?_)));(case side2 => exact (Kd.V_reads' HO_6.out).2.1);(case side3 => repeat (first | exact (Kd.V_reads' HO796.out).2.2 | (with_reducible refine Kd.C_alloc ?_ _) | (with_reducible refine Kd.C_drewN ?_ _) | (with_reducible refine Kd.C_drew ?_)));(case side4 => exact (Kd.V_reads' HO796.out).2.1);rintro e w' ⟨rfl,⟨nd,rfl⟩⟩;refine ⟨_,rfl,?_⟩))
     go_ret2
     exact ⟨_,by first | rfl | (simp [errW_none,errW_some] <;> rfl) | (simp [*,errW_none,errW_some] <;> rfl),by (with_reducible repeat (first | apply Kd.V_alloc | apply Kd.V_drewN | apply Kd.V_drew));exact HO_8.out,by repeat (first | (with_reducible first | exact HB.out | apply below_alloc | apply pw_below_drewN | apply below_drew1) | exact HB.out)⟩
    ·
     rw [if_neg c22] at H
     have c22b0:(t797 == 0) = false:=beq_eq_false_iff_ne.mpr c22
     have c22b1:(t797 != 0) = true:=bne_iff_ne.mpr c22
     simp only [Option.some.injEq,Prod.mk.injEq] at H
     obtain ⟨rfl,rfl⟩:=H
     obtain ⟨Ao27,co27,eo27⟩:=Kd.V_slice HO_7.out
     subst eo27
     go_wp2_with (first | ((with_reducible refine gate_callee (f:=55) rfl ?_);refine goesL_ (some 37) rfl rfl Try.func55 (by kernel_rfl) rfl #[.int .u64 1] rfl vA ?_;(with_reducible refine (sconceref03_Small.calls k1 1 t794 _ A20.out).mono ?_);rintro e w28 ⟨v795,rfl,ho0,hb⟩;refine ⟨_,rfl,?_⟩;have n0_:=Aside0.mk (Kd.V_below (vV HO_1.out) hb);have n1_:=Aside0.mk (Kd.V_below (vV HO_6.out) hb);have n2_:=Aside0.mk (Kd.V_below (vV HO_7.out) hb);have n3_:=Aside0.mk (Kd.V_below (vV HO_8.out) hb);have n4_:=Aside0.mk (Kd.V_below (vV HO_9.out) hb);have n5_:=Aside0.mk (Kd.V_lower (Kd.V_mono (ok':=fun k_ => ((P0_ k_∨P1_ k_)∨w.heap.size≤k_)) ho0 (fun k_ hk_ => (.inr (Nat.le_trans (below_size (vB HB.out)) hk_)))) (below_size (vB HB.out)));have n6_:=Aside0.mk (below_step (vB HB.out) hb);clear HO_1;clear HO_6;clear HO_7;clear HO_8;clear HO_9;clear HB;have HO_1:=n0_;have HO_6:=n1_;have HO_7:=n2_;have HO_8:=n3_;have HO_9:=n4_;have HO796:=n5_;have HB:=n6_;clear n0_ n1_ n2_ n3_ n4_ n5_ n6_;(try clear hb);(try clear hb2);(try clear hk);(try clear hi);(try clear ho0);obtain ⟨Ao29,co29,eo29⟩:=Kd.V_slice HO_6.out;subst eo29;obtain ⟨Ao30,co30,eo30⟩:=Kd.V_slice HO796.out;subst eo30) | ((with_reducible refine gate_callee (f:=24) rfl ?_);refine goesL_ (some 38) rfl rfl Try.func24 (by kernel_rfl) rfl #[.slice Ao29 x6_1.length co29,.slice Ao30 t794.length co30] rfl vA ?_;(with_reducible refine (sconceref03_Cmp.calls k1 _ _ x6_1 _ _ t794 t797 _ ?side1 ?side2 ?side3 ?side4 A21.out).mono ?_);(case side1 => repeat (first | exact (Kd.V_reads' HO_6.out).2.2 | (with_reducible refine Kd.C_alloc ?_ _) | (with_reducible refine Kd.C_drewN ?_ _) | (with_reducible refine Kd.C_drew ?_)));(case side2 => exact (Kd.V_reads' HO_6.out).2.1);(case side3 => repeat (first | exact (Kd.V_reads' HO796.out).2.2 | (with_reducible refine Kd.C_alloc ?_ _) | (with_reducible refine Kd.C_drewN ?_ _) | (with_reducible refine Kd.C_drew ?_)));(case side4 => exact (Kd.V_reads' HO796.out).2.1);rintro e w' ⟨rfl,⟨nd,rfl⟩⟩;refine ⟨_,rfl,?_⟩))
     go_ret2
     exact ⟨_,by first | rfl | (simp [errW_none,errW_some] <;> rfl) | (simp [*,errW_none,errW_some] <;> rfl),Kd.V_nil _ _ _ _ _,by repeat (first | (with_reducible first | exact HB.out | apply below_alloc | apply pw_below_drewN | apply below_drew1) | exact HB.out)⟩
end Go.Proofs.Ytalfniohakahlaa.X
