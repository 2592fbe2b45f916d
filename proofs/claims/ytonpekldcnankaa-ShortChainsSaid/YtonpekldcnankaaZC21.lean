/- Texts of the walk and of the plain laws, laid together by a program: X23. -/
import Derived.Test.YtonpekldcnankaaZC20
namespace Go.Proofs.Ytonpekldcnankaa.X
open Go.RowKit Go.Proofs.YtonpekldcnankaaW.PrintWords Go.Proofs.YtonpekldcnankaaW.PrintLast Go.Proofs.YtonpekldcnankaaW.PrintMore
attribute [local go_sem] max2_int min2_int max_two min_two max_three min_three max_four min_four
set_option linter.unusedVariables false
set_option linter.unusedSimpArgs false
def sconceref07_Members.l0:Nat→List (List Int)→Int→Int→List Int→Int→List Int→Option (Bool)
 | 0,_,_,_,_,_,_ => none
 | k + 1,x10,x11,x12,x359000,x359001,x359002 => if x12 < x11 then (if 0≤x12 then (if x12 < (x10.length:Int) then ((sconceref06_Member.f k x359000 x359001 x359002 (rd_L2 x10 x12)).bind fun t361 => (if t361 = true then (sconceref07_Members.l0 k x10 x11 (wrap64 (x12 + 1)) x359000 x359001 x359002) else (some false))) else (none)) else (none)) else (some true)
def sconceref07_Members.f (k:Nat) (l0_0:List Int) (a0_1:Int) (l0_2:List Int) (l1:List (List Int)):Option (Bool):=(sconceref06_Check.f k l0_0 a0_1 l0_2).bind fun t359 => (if t359 = true then (sconceref07_Members.l0 k l1 (l1.length:Int) 0 l0_0 a0_1 l0_2) else (some false))
set_option maxHeartbeats 8000000 in
set_option maxRecDepth 100000 in
theorem sconceref07_Members.calls (k:Nat) (A0_0:Option Addr) (c0_0:Nat) (l0_0:List Int) (a0_1:Int) (A0_2:Option Addr) (c0_2:Nat) (l0_2:List Int) (A1:Option Addr) (c1:Nat) (l1:List (List Int)) (r:Bool) (w:World) (hr0_0:Kd.C (Kd.int .u64) w A0_0 l0_0.length l0_0) (hc0_0:l0_0.length≤c0_0) (hr0_2:Kd.C (Kd.int .u64) w A0_2 l0_2.length l0_2) (hc0_2:l0_2.length≤c0_2) (hr1:Kd.C (Kd.slice 24 (Kd.int .u64)) w A1 l1.length l1) (hc1:l1.length≤c1) (h:sconceref07_Members.f k l0_0 a0_1 l0_2 l1 = some r) :
  Calls Try.prog 34 #[.agg #[.slice A0_0 l0_0.length c0_0,.int .u64 a0_1,.slice A0_2 l0_2.length c0_2],.slice A1 l1.length c1] w fun e w' => e = .returned (.bool r)∧Below w.heap.size w w':=by
 have hu26:=Try.underlying26
 have HR0_0:=Aside0.mk hr0_0
 have HC0_0:=Aside0.mk hc0_0
 clear hr0_0 hc0_0
 have HR0_2:=Aside0.mk hr0_2
 have HC0_2:=Aside0.mk hc0_2
 clear hr0_2 hc0_2
 have HR1:=Aside0.mk hr1
 have HC1:=Aside0.mk hc1
 clear hr1 hc1
 have HB:=Aside0.mk (Below.refl w.heap.size w)
 have H:((sconceref06_Check.f k l0_0 a0_1 l0_2).bind fun t359 => (if t359 = true then (sconceref07_Members.l0 k l1 (l1.length:Int) 0 l0_0 a0_1 l0_2) else (some false))) = some r:=h
 clear h
 replace H:=Option.bind_eq_some_iff.mp H
 obtain ⟨t359,A30,H⟩:=H
 replace H:(if t359 = true then (sconceref07_Members.l0 k l1 (l1.length:Int) 0 l0_0 a0_1 l0_2) else (some false)) = some r:=H
 have A3:=Aside0.mk A30
 clear A30
 by_cases c4:t359 = true
 ·
  subst c4
  have H1:(sconceref07_Members.l0 k l1 (l1.length:Int) 0 l0_0 a0_1 l0_2) = some r:=by rw [if_pos rfl] at H;exact H
  clear H
  have H:=H1
  clear H1
  have H':=Aside0.mk H
  clear H
  go_enter Try.func34,Try.ntmps34
  go_wp2_with (first | ((with_reducible refine gate_dst (N:=2) rfl ?_);refine box_event ?hg (N:=2) ?hd (cs:=#[.slice A0_0 l0_0.length c0_0,.int .u64 a0_1,.slice A0_2 l0_2.length c0_2]) (t:=26) ?hr ?_;(case hd => rfl);(case hg => rfl);(case hr => first | (go_simp;done) | (go_simp;rfl));intro gb358 hg w5 hbox hb;have n0_:=Aside0.mk (below_step (vB HB.out) hb);have n1_:=Aside0.mk (hbox);have n2_:=Aside0.mk ((by rw [hg];exact (below_size (vB HB.out)):w.heap.size≤gb358));have n3_:=Aside0.mk ((by rw [hg];exact (below_size (vB HB.out)):w.heap.size≤gb358));clear HB;have HB:=n0_;have BK358:=n1_;have GW358:=n2_;have GE358:=n3_;clear n0_ n1_ n2_ n3_;clear hb hbox hg;have hcz6_0:w5.cell? ⟨gb358,0,none⟩ = some (.slice A0_0 l0_0.length c0_0):=(blk_cell BK358.out 0).trans rfl;have hcz6_1:w5.cell? ⟨gb358,1,none⟩ = some (.int .u64 a0_1):=(blk_cell BK358.out 1).trans rfl;have hcz6_2:w5.cell? ⟨gb358,2,none⟩ = some (.slice A0_2 l0_2.length c0_2):=(blk_cell BK358.out 2).trans rfl;have hfz6_0:=blk_frozen BK358.out 0;have hfz6_1:=blk_frozen BK358.out 1;have hfz6_2:=blk_frozen BK358.out 2) | ((with_reducible refine gate_callee (f:=80) rfl ?_);refine goesL_ (some 8) rfl rfl Try.func80 (by kernel_rfl) rfl #[.agg #[.slice A0_0 l0_0.length c0_0,.int .u64 a0_1,.slice A0_2 l0_2.length c0_2]] rfl vA ?_;(with_reducible refine (sconceref06_Check.calls k _ _ l0_0 a0_1 _ _ l0_2 true _ ?side1 ?side2 ?side3 ?side4 A3.out).mono ?_);(case side1 => repeat (first | exact (Kd.C_below HR0_0.out HB.out) | (with_reducible refine Kd.C_alloc ?_ _) | (with_reducible refine Kd.C_drewN ?_ _) | (with_reducible refine Kd.C_drew ?_)));(case side2 => exact HC0_0.out);(case side3 => repeat (first | exact (Kd.C_below HR0_2.out HB.out) | (with_reducible refine Kd.C_alloc ?_ _) | (with_reducible refine Kd.C_drewN ?_ _) | (with_reducible refine Kd.C_drew ?_)));(case side4 => exact HC0_2.out);rintro e w7 ⟨rfl,hb⟩;refine ⟨_,rfl,?_⟩;have n0_:=Aside0.mk (blk_below (g:=gb358) (o:=.cells #[.slice A0_0 l0_0.length c0_0,.int .u64 a0_1,.slice A0_2 l0_2.length c0_2] 26 (0,0)) (vK BK358.out) hb);have n1_:=Aside0.mk (below_step (vBg HB.out GE358.out) hb);clear BK358;clear HB;have BK358:=n0_;have HB:=n1_;clear n0_ n1_;(try clear hb);(try clear hb2);(try clear hk);(try clear hi)))
  go_loopg [12] k (fun kq v12 w' => ∃ (x12_1:Int),v12 = .int .i64 x12_1∧Aside0 (sconceref07_Members.l0 kq l1 (l1.length:Int) x12_1 l0_0 a0_1 l0_2 = some r)∧Aside0 (kq≤k)∧Aside0 (w'.heap[gb358]? = some (.cells #[(.slice A0_0 l0_0.length c0_0),.int .u64 a0_1,(.slice A0_2 l0_2.length c0_2)] 26 (0,0)))∧Aside0 (Below w.heap.size w w'))
  case atStart => exact ⟨(0),(by first | rfl | (simp;done) | (simp [*];done)),H',⟨Nat.le_refl _⟩,⟨by (with_reducible repeat (first | refine blk_drewN ?_ _ | refine blk_drew ?_ | refine blk_alloc ?_ _));exact BK358.out⟩,⟨by repeat (first | (with_reducible first | exact HB.out | apply below_alloc | apply pw_below_drewN | apply below_drew1 | refine below_set ?_ GE358.out) | exact HB.out)⟩⟩
  case round =>
   clear H'
   try clear c1
   try clear p2
   try clear c3
   try clear c4
   try clear hcz6_0
   try clear hcz6_1
   try clear hcz6_2
   try clear hfz6_0
   try clear hfz6_1
   try clear hfz6_2
   obtain ⟨x12_1,rfl,HA,HK1,BK358,HB⟩:=hrel
   cases gk with
   | zero => exact absurd HA.out (by simp [sconceref07_Members.l0])
   | succ k1 =>
    have H:=HA.out
    clear HA
    simp only [sconceref07_Members.l0] at H
    by_cases c8:x12_1 < (l1.length:Int)
    ·
     rw [if_pos c8] at H
     have c8b0:decide (x12_1 < (l1.length:Int)) = true:=decide_eq_true c8
     clear c8
     by_cases c9:0≤x12_1
     ·
      rw [if_pos c9] at H
      have c9b0:decide (0≤x12_1) = true:=decide_eq_true c9
      clear c9
      by_cases c10:x12_1 < (l1.length:Int)
      ·
       rw [if_pos c10] at H
       have c10b0:decide (x12_1 < (l1.length:Int)) = true:=decide_eq_true c10
       clear c10
       replace H:=Option.bind_eq_some_iff.mp H
       obtain ⟨t361,A110,H⟩:=H
       replace H:(if t361 = true then (sconceref07_Members.l0 k1 l1 (l1.length:Int) (wrap64 (x12_1 + 1)) l0_0 a0_1 l0_2) else (some false)) = some r:=H
       have A11:=Aside0.mk A110
       clear A110
       by_cases c12:t361 = true
       ·
        subst c12
        have H1:(sconceref07_Members.l0 k1 l1 (l1.length:Int) (wrap64 (x12_1 + 1)) l0_0 a0_1 l0_2) = some r:=by rw [if_pos rfl] at H;exact H
        clear H
        have H:=H1
        clear H1
        have H':=Aside0.mk H
        clear H
        have p360:0≤(x12_1:Int):=of_decide_eq_true vD
        have q360:x12_1 < (l1.length:Int):=of_decide_eq_true vD
        obtain ⟨ad360,A360_0,c360_0,e360,hx360_0,hl360_0,hi360_0⟩:=at_L2 HR1.out x12_1 p360 q360
        cases e360
        replace hx360_0:=(HB.out.cell (World.block_lt_of_cell? w _ hx360_0)).trans hx360_0
        have HR360_0:=Aside0.mk hi360_0
        have HC360_0:=Aside0.mk hl360_0
        clear hi360_0 hl360_0
        replace p360:=eq_true p360
        replace q360:=eq_true q360
        have hcz13_0:wr.cell? ⟨gb358,0,none⟩ = some (.slice A0_0 l0_0.length c0_0):=(blk_cell BK358.out 0).trans rfl
        have hcz13_1:wr.cell? ⟨gb358,1,none⟩ = some (.int .u64 a0_1):=(blk_cell BK358.out 1).trans rfl
        have hcz13_2:wr.cell? ⟨gb358,2,none⟩ = some (.slice A0_2 l0_2.length c0_2):=(blk_cell BK358.out 2).trans rfl
        have hfz13_0:=blk_frozen BK358.out 0
        have hfz13_1:=blk_frozen BK358.out 1
        have hfz13_2:=blk_frozen BK358.out 2
        go_wp2_with (first | ((with_reducible refine gate_callee (f:=81) rfl ?_);refine goesL_ (some 18) rfl rfl Try.func81 (by kernel_rfl) rfl #[.agg #[.slice A0_0 l0_0.length c0_0,.int .u64 a0_1,.slice A0_2 l0_2.length c0_2],.slice A360_0 (rd_L2 l1 x12_1).length c360_0] rfl vA ?_;(with_reducible refine (sconceref06_Member.calls k1 _ _ l0_0 a0_1 _ _ l0_2 _ _ (rd_L2 l1 x12_1) true _ ?side1 ?side2 ?side3 ?side4 ?side5 ?side6 A11.out).mono ?_);(case side1 => repeat (first | exact (Kd.C_below HR0_0.out HB.out) | (with_reducible refine Kd.C_alloc ?_ _) | (with_reducible refine Kd.C_drewN ?_ _) | (with_reducible refine Kd.C_drew ?_)));(case side2 => exact HC0_0.out);(case side3 => repeat (first | exact (Kd.C_below HR0_2.out HB.out) | (with_reducible refine Kd.C_alloc ?_ _) | (with_reducible refine Kd.C_drewN ?_ _) | (with_reducible refine Kd.C_drew ?_)));(case side4 => exact HC0_2.out);(case side5 => repeat (first | exact (Kd.C_below HR360_0.out HB.out) | (with_reducible refine Kd.C_alloc ?_ _) | (with_reducible refine Kd.C_drewN ?_ _) | (with_reducible refine Kd.C_drew ?_)));(case side6 => exact HC360_0.out);rintro e w14 ⟨rfl,hb⟩;refine ⟨_,rfl,?_⟩;have n0_:=Aside0.mk (blk_below (g:=gb358) (o:=.cells #[.slice A0_0 l0_0.length c0_0,.int .u64 a0_1,.slice A0_2 l0_2.length c0_2] 26 (0,0)) (vK BK358.out) hb);have n1_:=Aside0.mk (below_step (vBg HB.out GE358.out) hb);clear BK358;clear HB;have BK358:=n0_;have HB:=n1_;clear n0_ n1_;(try clear hb);(try clear hb2);(try clear hk);(try clear hi)))
        go_roundg k1
        case measure => have:=HK1.out;omega
        case rel => exact ⟨(wrap64 (x12_1 + 1)),(by first | rfl | (simp;done) | (simp [*];done)),H',⟨by have:=HK1.out;omega⟩,⟨by (with_reducible repeat (first | refine blk_drewN ?_ _ | refine blk_drew ?_ | refine blk_alloc ?_ _));exact BK358.out⟩,⟨by repeat (first | (with_reducible first | exact HB.out | apply below_alloc | apply pw_below_drewN | apply below_drew1 | refine below_set ?_ GE358.out) | exact HB.out)⟩⟩
       ·
        replace c12:=Bool.eq_false_iff.mpr c12
        subst c12
        have H1:(some false) = some r:=by rw [if_neg (show ¬ (false = true) by decide)] at H;exact H
        clear H
        have H:=H1
        clear H1
        obtain rfl:=Option.some.inj H
        have p360:0≤(x12_1:Int):=of_decide_eq_true vD
        have q360:x12_1 < (l1.length:Int):=of_decide_eq_true vD
        obtain ⟨ad360,A360_0,c360_0,e360,hx360_0,hl360_0,hi360_0⟩:=at_L2 HR1.out x12_1 p360 q360
        cases e360
        replace hx360_0:=(HB.out.cell (World.block_lt_of_cell? w _ hx360_0)).trans hx360_0
        have HR360_0:=Aside0.mk hi360_0
        have HC360_0:=Aside0.mk hl360_0
        clear hi360_0 hl360_0
        replace p360:=eq_true p360
        replace q360:=eq_true q360
        have hcz15_0:wr.cell? ⟨gb358,0,none⟩ = some (.slice A0_0 l0_0.length c0_0):=(blk_cell BK358.out 0).trans rfl
        have hcz15_1:wr.cell? ⟨gb358,1,none⟩ = some (.int .u64 a0_1):=(blk_cell BK358.out 1).trans rfl
        have hcz15_2:wr.cell? ⟨gb358,2,none⟩ = some (.slice A0_2 l0_2.length c0_2):=(blk_cell BK358.out 2).trans rfl
        have hfz15_0:=blk_frozen BK358.out 0
        have hfz15_1:=blk_frozen BK358.out 1
        have hfz15_2:=blk_frozen BK358.out 2
        go_wp2_with (first | ((with_reducible refine gate_callee (f:=81) rfl ?_);refine goesL_ (some 18) rfl rfl Try.func81 (by kernel_rfl) rfl #[.agg #[.slice A0_0 l0_0.length c0_0,.int .u64 a0_1,.slice A0_2 l0_2.length c0_2],.slice A360_0 (rd_L2 l1 x12_1).length c360_0] rfl vA ?_;(with_reducible refine (sconceref06_Member.calls k1 _ _ l0_0 a0_1 _ _ l0_2 _ _ (rd_L2 l1 x12_1) false _ ?side1 ?side2 ?side3 ?side4 ?side5 ?side6 A11.out).mono ?_);(case side1 => repeat (first | exact (Kd.C_below HR0_0.out HB.out) | (with_reducible refine Kd.C_alloc ?_ _) | (with_reducible refine Kd.C_drewN ?_ _) | (with_reducible refine Kd.C_drew ?_)));(case side2 => exact HC0_0.out);(case side3 => repeat (first | exact (Kd.C_below HR0_2.out HB.out) | (with_reducible refine Kd.C_alloc ?_ _) | (with_reducible refine Kd.C_drewN ?_ _) | (with_reducible refine Kd.C_drew ?_)));(case side4 => exact HC0_2.out);(case side5 => repeat (first | exact (Kd.C_below HR360_0.out HB.out) | (with_reducible refine Kd.C_alloc ?_ _) | (with_reducible refine Kd.C_drewN ?_ _) | (with_reducible refine Kd.C_drew ?_)));(case side6 => exact HC360_0.out);rintro e w16 ⟨rfl,hb⟩;refine ⟨_,rfl,?_⟩;have n0_:=Aside0.mk (blk_below (g:=gb358) (o:=.cells #[.slice A0_0 l0_0.length c0_0,.int .u64 a0_1,.slice A0_2 l0_2.length c0_2] 26 (0,0)) (vK BK358.out) hb);have n1_:=Aside0.mk (below_step (vBg HB.out GE358.out) hb);clear BK358;clear HB;have BK358:=n0_;have HB:=n1_;clear n0_ n1_;(try clear hb);(try clear hb2);(try clear hk);(try clear hi)))
        go_ret
        exact ⟨by first | rfl | (simp [errW_none,errW_some] <;> rfl) | (simp [*,errW_none,errW_some] <;> rfl),by repeat (first | (with_reducible first | exact HB.out | apply below_alloc | apply pw_below_drewN | apply below_drew1 | refine below_set ?_ GE358.out) | exact HB.out)⟩
      ·
       rw [if_neg c10] at H
       exact absurd H (by simp)
     ·
      rw [if_neg c9] at H
      exact absurd H (by simp)
    ·
     rw [if_neg c8] at H
     have c8b0:decide (x12_1 < (l1.length:Int)) = false:=decide_eq_false c8
     clear c8
     obtain rfl:=Option.some.inj H
     go_wp2
     go_ret
     exact ⟨by first | rfl | (simp [errW_none,errW_some] <;> rfl) | (simp [*,errW_none,errW_some] <;> rfl),by repeat (first | (with_reducible first | exact HB.out | apply below_alloc | apply pw_below_drewN | apply below_drew1 | refine below_set ?_ GE358.out) | exact HB.out)⟩
 ·
  replace c4:=Bool.eq_false_iff.mpr c4
  subst c4
  have H1:(some false) = some r:=by rw [if_neg (show ¬ (false = true) by decide)] at H;exact H
  clear H
  have H:=H1
  clear H1
  obtain rfl:=Option.some.inj H
  go_enter Try.func34,Try.ntmps34
  go_wp2_with (first | ((with_reducible refine gate_dst (N:=2) rfl ?_);refine box_event ?hg (N:=2) ?hd (cs:=#[.slice A0_0 l0_0.length c0_0,.int .u64 a0_1,.slice A0_2 l0_2.length c0_2]) (t:=26) ?hr ?_;(case hd => rfl);(case hg => rfl);(case hr => first | (go_simp;done) | (go_simp;rfl));intro gb358 hg w17 hbox hb;have n0_:=Aside0.mk (below_step (vB HB.out) hb);have n1_:=Aside0.mk (hbox);have n2_:=Aside0.mk ((by rw [hg];exact (below_size (vB HB.out)):w.heap.size≤gb358));have n3_:=Aside0.mk ((by rw [hg];exact (below_size (vB HB.out)):w.heap.size≤gb358));clear HB;have HB:=n0_;have BK358:=n1_;have GW358:=n2_;have GE358:=n3_;clear n0_ n1_ n2_ n3_;clear hb hbox hg;have hcz18_0:w17.cell? ⟨gb358,0,none⟩ = some (.slice A0_0 l0_0.length c0_0):=(blk_cell BK358.out 0).trans rfl;have hcz18_1:w17.cell? ⟨gb358,1,none⟩ = some (.int .u64 a0_1):=(blk_cell BK358.out 1).trans rfl;have hcz18_2:w17.cell? ⟨gb358,2,none⟩ = some (.slice A0_2 l0_2.length c0_2):=(blk_cell BK358.out 2).trans rfl;have hfz18_0:=blk_frozen BK358.out 0;have hfz18_1:=blk_frozen BK358.out 1;have hfz18_2:=blk_frozen BK358.out 2) | ((with_reducible refine gate_callee (f:=80) rfl ?_);refine goesL_ (some 8) rfl rfl Try.func80 (by kernel_rfl) rfl #[.agg #[.slice A0_0 l0_0.length c0_0,.int .u64 a0_1,.slice A0_2 l0_2.length c0_2]] rfl vA ?_;(with_reducible refine (sconceref06_Check.calls k _ _ l0_0 a0_1 _ _ l0_2 false _ ?side1 ?side2 ?side3 ?side4 A3.out).mono ?_);(case side1 => repeat (first | exact (Kd.C_below HR0_0.out HB.out) | (with_reducible refine Kd.C_alloc ?_ _) | (with_reducible refine Kd.C_drewN ?_ _) | (with_reducible refine Kd.C_drew ?_)));(case side2 => exact HC0_0.out);(case side3 => repeat (first | exact (Kd.C_below HR0_2.out HB.out) | (with_reducible refine Kd.C_alloc ?_ _) | (with_reducible refine Kd.C_drewN ?_ _) | (with_reducible refine Kd.C_drew ?_)));(case side4 => exact HC0_2.out);rintro e w19 ⟨rfl,hb⟩;refine ⟨_,rfl,?_⟩;have n0_:=Aside0.mk (blk_below (g:=gb358) (o:=.cells #[.slice A0_0 l0_0.length c0_0,.int .u64 a0_1,.slice A0_2 l0_2.length c0_2] 26 (0,0)) (vK BK358.out) hb);have n1_:=Aside0.mk (below_step (vBg HB.out GE358.out) hb);clear BK358;clear HB;have BK358:=n0_;have HB:=n1_;clear n0_ n1_;(try clear hb);(try clear hb2);(try clear hk);(try clear hi)))
  go_ret
  exact ⟨by first | rfl | (simp [errW_none,errW_some] <;> rfl) | (simp [*,errW_none,errW_some] <;> rfl),by repeat (first | (with_reducible first | exact HB.out | apply below_alloc | apply pw_below_drewN | apply below_drew1 | refine below_set ?_ GE358.out) | exact HB.out)⟩
end Go.Proofs.Ytonpekldcnankaa.X
