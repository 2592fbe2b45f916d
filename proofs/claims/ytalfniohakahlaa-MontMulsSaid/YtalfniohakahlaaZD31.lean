/- Texts of the walk and of the plain laws, laid together by a program: X30. -/
import Derived.Test.YtalfniohakahlaaZD0
import Derived.Test.YtalfniohakahlaaZD1
import Derived.Test.YtalfniohakahlaaZD2
import Derived.Test.YtalfniohakahlaaZD5
import Derived.Test.YtalfniohakahlaaZD4
import Derived.Test.YtalfniohakahlaaZD3
import Derived.Test.YtalfniohakahlaaZD8
import Derived.Test.YtalfniohakahlaaZD9
import Derived.Test.YtalfniohakahlaaZD10
import Derived.Test.YtalfniohakahlaaZD13
import Derived.Test.YtalfniohakahlaaZD19
import Derived.Test.YtalfniohakahlaaZD23
import Derived.Test.YtalfniohakahlaaZD24
import Derived.Test.YtalfniohakahlaaZD28
import Derived.Test.YtalfniohakahlaaZD29
import Derived.Test.YtalfniohakahlaaZD30
set_option maxHeartbeats 8000000
set_option maxRecDepth 100000
namespace Go.Proofs.Ytalfniohakahlaa.X
open Go.RowKit Go.Proofs.YtalfniohakahlaaW.PrintWords Go.Proofs.YtalfniohakahlaaW.PrintLast Go.Proofs.YtalfniohakahlaaW.PrintMore
attribute [local go_sem] max2_int min2_int max_two min_two max_three min_three max_four min_four
set_option linter.unusedVariables false
set_option linter.unusedSimpArgs false
def sconcelaw06_awake.f (k:Nat) :Option (Bool):=(mont_Setup.f k (([7]:List Int))).bind fun bt562 => (if bt562.2.2.2 = 0 then (if (bt562.1.length:Int) = 1 then (if 0 < (bt562.1.length:Int) then (if (rd bt562.1 0) = 7 then (if bt562.2.1 = 10540996613548315209 then (if (bt562.2.2.1.length:Int) = 1 then (if 0 < (bt562.2.2.1.length:Int) then (some ((rd bt562.2.2.1 0) == 4)) else (none)) else (some false)) else (some false)) else (some false)) else (none)) else (some false)) else (some false))
theorem sconcelaw06_awake.mono:∀ k,LeO (sconcelaw06_awake.f k ) (sconcelaw06_awake.f (k + 1) ):=by
 intro  k
 unfold sconcelaw06_awake.f
 repeat' first
   | (with_reducible exact mont_Setup.mono _ _)
   | (with_reducible exact LeO.refl _)
   | (with_reducible exact LeO.none _)
   | (with_reducible refine LeO.ite ?_ ?_)
   | (with_reducible refine LeO.bind ?_ (fun _ => ?_))
   | exact mont_Setup.mono _ _
   | exact LeO.none _
   | refine LeO.ite ?_ ?_
   | refine LeO.bind ?_ (fun _ => ?_)
theorem sconcelaw06_awake.calls (k:Nat)  (r:Bool) (w:World) (h:sconcelaw06_awake.f k  = some r) :
  Calls Try.prog 35 #[] w fun e w' => e = .returned (.bool r)∧Below w.heap.size w w':=by
 have hu59:=Try.underlying59
 have HB:=Aside0.mk (Below.refl w.heap.size w)
 have H:((mont_Setup.f k (([7]:List Int))).bind fun bt562 => (if bt562.2.2.2 = 0 then (if (bt562.1.length:Int) = 1 then (if 0 < (bt562.1.length:Int) then (if (rd bt562.1 0) = 7 then (if bt562.2.1 = 10540996613548315209 then (if (bt562.2.2.1.length:Int) = 1 then (if 0 < (bt562.2.2.1.length:Int) then (some ((rd bt562.2.2.1 0) == 4)) else (none)) else (some false)) else (some false)) else (some false)) else (none)) else (some false)) else (some false))) = some r:=h
 clear h
 obtain ⟨y559,hy559⟩:∃ y_:List Int,y_ = (([7]:List Int)):=⟨_,rfl⟩
 replace H:((mont_Setup.f k y559).bind fun bt562 => (if bt562.2.2.2 = 0 then (if (bt562.1.length:Int) = 1 then (if 0 < (bt562.1.length:Int) then (if (rd bt562.1 0) = 7 then (if bt562.2.1 = 10540996613548315209 then (if (bt562.2.2.1.length:Int) = 1 then (if 0 < (bt562.2.2.1.length:Int) then (some ((rd bt562.2.2.1 0) == 4)) else (none)) else (some false)) else (some false)) else (some false)) else (none)) else (some false)) else (some false))) = some r:=by first | (rw [hy559];with_reducible exact H) | (have H2_:=(Option.bind_some _ _).symm.trans H;rw [hy559];with_reducible exact H2_) | (have H2_:=(Option.bind_some _ _).symm.trans H;with_reducible exact H2_) | with_reducible exact H | (rw [hy559];exact H) | exact H
 have Ny559:=Aside0.mk hy559
 clear hy559
 replace H:=Option.bind_eq_some_iff.mp H
 obtain ⟨⟨t562,t565,t566,t569⟩,A10,H⟩:=H
 replace H:(if t569 = 0 then (if (t562.length:Int) = 1 then (if 0 < (t562.length:Int) then (if (rd t562 0) = 7 then (if t565 = 10540996613548315209 then (if (t566.length:Int) = 1 then (if 0 < (t566.length:Int) then (some ((rd t566 0) == 4)) else (none)) else (some false)) else (some false)) else (some false)) else (none)) else (some false)) else (some false)) = some r:=H
 have A1:=Aside0.mk A10
 clear A10
 by_cases c2:t569 = 0
 ·
  rw [if_pos c2] at H
  have c2b0:(t569 == 0) = true:=beq_iff_eq.mpr c2
  have c2b1:(t569 != 0) = false:=bne_eq_false_iff_eq.mpr c2
  clear c2
  by_cases c3:(t562.length:Int) = 1
  ·
   rw [if_pos c3] at H
   have c3b0:((t562.length:Int) == 1) = true:=beq_iff_eq.mpr c3
   have c3b1:((t562.length:Int) != 1) = false:=bne_eq_false_iff_eq.mpr c3
   clear c3
   by_cases c4:0 < (t562.length:Int)
   ·
    rw [if_pos c4] at H
    have c4b0:decide (0 < (t562.length:Int)) = true:=decide_eq_true c4
    have c4b1:decide (0 < t562.length) = true:=decide_eq_true (by omega)
    clear c4
    by_cases c5:(rd t562 0) = 7
    ·
     rw [if_pos c5] at H
     have c5b0:((rd t562 0) == 7) = true:=beq_iff_eq.mpr c5
     have c5b1:((rd t562 0) != 7) = false:=bne_eq_false_iff_eq.mpr c5
     clear c5
     by_cases c6:t565 = 10540996613548315209
     ·
      rw [if_pos c6] at H
      have c6b0:(t565 == 10540996613548315209) = true:=beq_iff_eq.mpr c6
      have c6b1:(t565 != 10540996613548315209) = false:=bne_eq_false_iff_eq.mpr c6
      clear c6
      by_cases c7:(t566.length:Int) = 1
      ·
       rw [if_pos c7] at H
       have c7b0:((t566.length:Int) == 1) = true:=beq_iff_eq.mpr c7
       have c7b1:((t566.length:Int) != 1) = false:=bne_eq_false_iff_eq.mpr c7
       clear c7
       by_cases c8:0 < (t566.length:Int)
       ·
        rw [if_pos c8] at H
        have c8b0:decide (0 < (t566.length:Int)) = true:=decide_eq_true c8
        have c8b1:decide (0 < t566.length) = true:=decide_eq_true (by omega)
        clear c8
        obtain rfl:=Option.some.inj H
        go_enter Try.func35,Try.ntmps35
        go_wp2_with (first | ((with_reducible refine gate_dst (N:=4) rfl ?_);(try (refine gate_guard (by rfl) ?_;dsimp only));refine Kd.R_lit (Kd.int .u64) _ 37 ?hg (N:=4) ?hd (xs:=([7]:List Int)) (inner:=[.int .u64 7]) (ok:=fun _ => True) (okp:=fun _ => True) ?hr ?hp (fun _ hk => hk) trivial (Below.refl _ _) (Nat.le_refl _) (by simp) ?_;(case hd => rfl);(case hg => rfl);(case hr => first | (go_simp;done) | (go_simp;rfl));(case hp => exact (Reps.one (show Kd.M (Kd.int .u64) _ _ _ 7 [.int .u64 7] from rfl) (Reps.none _ _)));intro v560 w9 ho10 hb hg_ hnew_;clear hg_ hnew_;(first | rw [← Ny559.out] at ho10 | (simp only [Int.reduceToNat] at ho10;rw [← Ny559.out] at ho10));have n0_:=Aside0.mk (Kd.R_lower ho10 (below_size (vB HB.out)));have n1_:=Aside0.mk (below_step (vB HB.out) hb);clear HB;have HO561:=n0_;have HB:=n1_;clear n0_ n1_;clear hb ho10;obtain ⟨Ao11,co11,eo11⟩:=Kd.R_slice HO561.out;subst eo11) | ((with_reducible refine gate_callee (f:=36) rfl ?_);refine goesL_ (some 5) rfl rfl Try.func36 (by kernel_rfl) rfl #[.slice Ao11 y559.length co11] rfl vA ?_;(with_reducible refine (mont_Setup.calls k _ _ y559 t562 t565 t566 t569 _ ?side1 ?side2 A1.out).mono ?_);(case side1 => repeat (first | exact (Kd.R_reads' HO561.out).2.2 | (with_reducible refine Kd.C_alloc ?_ _) | (with_reducible refine Kd.C_drewN ?_ _) | (with_reducible refine Kd.C_drew ?_)));(case side2 => exact (Kd.R_reads' HO561.out).2.1);rintro e w12 ⟨v563,v567,rfl,ho0,ho1,hb⟩;refine ⟨_,rfl,?_⟩;have n0_:=Aside0.mk (Kd.R_mono (Kd.R_told (Kd.R_told (Kd.R_old (vR HO561.out) hb) (Kd.R_base ho0)) (Kd.R_base ho1)) (fun _ h_ => h_.1));have n1_:=Aside0.mk (Kd.R_lower (Kd.R_new' ho0 (Kd.R_lt (vR HO561.out))) (below_size (vB HB.out)));have n2_:=Aside0.mk (Kd.R_lower (Kd.R_new' ho1 (Kd.R_lt (vR HO561.out))) (below_size (vB HB.out)));have n3_:=Aside0.mk (below_step (vB HB.out) hb);clear HO561;clear HB;have HO561:=n0_;have HO564:=n1_;have HO568:=n2_;have HB:=n3_;clear n0_ n1_ n2_ n3_;(try clear hb);(try clear hb2);(try clear hk);(try clear hi);(try clear ho0);(try clear ho1)) | ((with_reducible refine gate_dst (N:=1) rfl ?_);(try (refine gate_guard (by rfl) ?_;dsimp only));refine box_event ?hg (N:=1) ?hd (cs:=#[.slice none 0 0,.int .u64 0,.slice none 0 0]) (t:=59) ?hr ?_;(case hd => rfl);(case hg => rfl);(case hr => first | (go_simp;done) | (go_simp;rfl));intro gb570 hg w13 hbox hb;have n0_:=Aside0.mk (Kd.R_below (vR HO561.out) hb);have n1_:=Aside0.mk (Kd.R_below (vR HO564.out) hb);have n2_:=Aside0.mk (Kd.R_below (vR HO568.out) hb);have n3_:=Aside0.mk (below_step (vB HB.out) hb);have n4_:=Aside0.mk (hbox);have n5_:=Aside0.mk ((by rw [hg];exact (below_size (vB HB.out)):w.heap.size≤gb570));have n6_:=Aside0.mk ((by rw [hg];exact (below_size (vB HB.out)):w.heap.size≤gb570));clear HO561;clear HO564;clear HO568;clear HB;have HO561:=n0_;have HO564:=n1_;have HO568:=n2_;have HB:=n3_;have BK570:=n4_;have GW570:=n5_;have GE570:=n6_;clear n0_ n1_ n2_ n3_ n4_ n5_ n6_;clear hb hbox hg;obtain ⟨Ao14,co14,eo14⟩:=Kd.R_slice HO564.out;subst eo14;have hcz15_0:w13.cell? ⟨gb570,0,none⟩ = some (.slice none 0 0):=(blk_cell BK570.out 0).trans rfl;have hcz15_1:w13.cell? ⟨gb570,1,none⟩ = some (.int .u64 0):=(blk_cell BK570.out 1).trans rfl;have hcz15_2:w13.cell? ⟨gb570,2,none⟩ = some (.slice none 0 0):=(blk_cell BK570.out 2).trans rfl;have hfz15_0:=blk_frozen BK570.out 0;have hfz15_1:=blk_frozen BK570.out 1;have hfz15_2:=blk_frozen BK570.out 2;obtain ⟨Ao16,co16,eo16⟩:=Kd.R_slice HO568.out;subst eo16;have p571:0≤(0:Int):=(by omega);have q571:0 < (t562.length:Int):=of_decide_eq_true vD;obtain ⟨ad571,e571,hx571_0⟩:=Kd.at_int (Kd.R_reads' HO564.out).2.2 0 p571 q571;cases e571;have qi571:(0 < t562.length) = True:=eq_true (by omega);(try rw [show ((0:Int)).toNat = 0 from rfl] at hx571_0);(try rw [Addr.add_zero'] at hx571_0);have hn571_0:ad571.block≠gb570:=Kd.own_blk (Kd.R_ne HO564.out BK570.out (by decide));have hn571_1:ad571.block≠gb570:=Kd.own_blk (Kd.R_ne HO564.out BK570.out (by decide));have hn571_2:ad571.block≠gb570:=Kd.own_blk (Kd.R_ne HO564.out BK570.out (by decide));replace hx571_0:=(cell_far (p:=⟨gb570,0,none⟩) (by first | (rw [add_block];exact hn571_0) | (show (Addr.add _ _).block≠_;rw [add_block];exact hn571_0) | exact hn571_0) (.slice (some ad571) t562.length co14)).trans hx571_0;replace hx571_0:=(cell_far (p:=⟨gb570,1,none⟩) (by first | (rw [add_block];exact hn571_1) | (show (Addr.add _ _).block≠_;rw [add_block];exact hn571_1) | exact hn571_1) (.int .u64 t565)).trans hx571_0;replace hx571_0:=(cell_far (p:=⟨gb570,2,none⟩) (by first | (rw [add_block];exact hn571_2) | (show (Addr.add _ _).block≠_;rw [add_block];exact hn571_2) | exact hn571_2) (.slice Ao16 t566.length co16)).trans hx571_0;clear hn571_0;clear hn571_1;clear hn571_2;replace p571:=eq_true p571;replace q571:=eq_true q571;have p572:0≤(0:Int):=(by omega);have q572:0 < (t566.length:Int):=of_decide_eq_true vD;obtain ⟨ad572,e572,hx572_0⟩:=Kd.at_int (Kd.R_reads' HO568.out).2.2 0 p572 q572;cases e572;have qi572:(0 < t566.length) = True:=eq_true (by omega);(try rw [show ((0:Int)).toNat = 0 from rfl] at hx572_0);(try rw [Addr.add_zero'] at hx572_0);have hn572_0:ad572.block≠gb570:=Kd.own_blk (Kd.R_ne HO568.out BK570.out (by decide));have hn572_1:ad572.block≠gb570:=Kd.own_blk (Kd.R_ne HO568.out BK570.out (by decide));have hn572_2:ad572.block≠gb570:=Kd.own_blk (Kd.R_ne HO568.out BK570.out (by decide));replace hx572_0:=(cell_far (p:=⟨gb570,0,none⟩) (by first | (rw [add_block];exact hn572_0) | (show (Addr.add _ _).block≠_;rw [add_block];exact hn572_0) | exact hn572_0) (.slice (some ad571) t562.length co14)).trans hx572_0;replace hx572_0:=(cell_far (p:=⟨gb570,1,none⟩) (by first | (rw [add_block];exact hn572_1) | (show (Addr.add _ _).block≠_;rw [add_block];exact hn572_1) | exact hn572_1) (.int .u64 t565)).trans hx572_0;replace hx572_0:=(cell_far (p:=⟨gb570,2,none⟩) (by first | (rw [add_block];exact hn572_2) | (show (Addr.add _ _).block≠_;rw [add_block];exact hn572_2) | exact hn572_2) (.slice (some ad572) t566.length co16)).trans hx572_0;clear hn572_0;clear hn572_1;clear hn572_2;replace p572:=eq_true p572;replace q572:=eq_true q572))
        go_ret
        exact ⟨by first | rfl | (simp [errW_none,errW_some] <;> rfl) | (simp [*,errW_none,errW_some] <;> rfl),by repeat (first | (with_reducible first | exact HB.out | apply below_alloc | apply pw_below_drewN | apply below_drew1 | refine below_set ?_ GE570.out) | exact HB.out)⟩
       ·
        rw [if_neg c8] at H
        exact absurd H (by simp)
      ·
       rw [if_neg c7] at H
       have c7b0:((t566.length:Int) == 1) = false:=beq_eq_false_iff_ne.mpr c7
       have c7b1:((t566.length:Int) != 1) = true:=bne_iff_ne.mpr c7
       obtain rfl:=Option.some.inj H
       go_enter Try.func35,Try.ntmps35
       go_wp2_with (first | ((with_reducible refine gate_dst (N:=4) rfl ?_);(try (refine gate_guard (by rfl) ?_;dsimp only));refine Kd.R_lit (Kd.int .u64) _ 37 ?hg (N:=4) ?hd (xs:=([7]:List Int)) (inner:=[.int .u64 7]) (ok:=fun _ => True) (okp:=fun _ => True) ?hr ?hp (fun _ hk => hk) trivial (Below.refl _ _) (Nat.le_refl _) (by simp) ?_;(case hd => rfl);(case hg => rfl);(case hr => first | (go_simp;done) | (go_simp;rfl));(case hp => exact (Reps.one (show Kd.M (Kd.int .u64) _ _ _ 7 [.int .u64 7] from rfl) (Reps.none _ _)));intro v560 w17 ho18 hb hg_ hnew_;clear hg_ hnew_;(first | rw [← Ny559.out] at ho18 | (simp only [Int.reduceToNat] at ho18;rw [← Ny559.out] at ho18));have n0_:=Aside0.mk (Kd.R_lower ho18 (below_size (vB HB.out)));have n1_:=Aside0.mk (below_step (vB HB.out) hb);clear HB;have HO561:=n0_;have HB:=n1_;clear n0_ n1_;clear hb ho18;obtain ⟨Ao19,co19,eo19⟩:=Kd.R_slice HO561.out;subst eo19) | ((with_reducible refine gate_callee (f:=36) rfl ?_);refine goesL_ (some 5) rfl rfl Try.func36 (by kernel_rfl) rfl #[.slice Ao19 y559.length co19] rfl vA ?_;(with_reducible refine (mont_Setup.calls k _ _ y559 t562 t565 t566 t569 _ ?side1 ?side2 A1.out).mono ?_);(case side1 => repeat (first | exact (Kd.R_reads' HO561.out).2.2 | (with_reducible refine Kd.C_alloc ?_ _) | (with_reducible refine Kd.C_drewN ?_ _) | (with_reducible refine Kd.C_drew ?_)));(case side2 => exact (Kd.R_reads' HO561.out).2.1);rintro e w20 ⟨v563,v567,rfl,ho0,ho1,hb⟩;refine ⟨_,rfl,?_⟩;have n0_:=Aside0.mk (Kd.R_mono (Kd.R_told (Kd.R_told (Kd.R_old (vR HO561.out) hb) (Kd.R_base ho0)) (Kd.R_base ho1)) (fun _ h_ => h_.1));have n1_:=Aside0.mk (Kd.R_lower (Kd.R_new' ho0 (Kd.R_lt (vR HO561.out))) (below_size (vB HB.out)));have n2_:=Aside0.mk (Kd.R_lower (Kd.R_new' ho1 (Kd.R_lt (vR HO561.out))) (below_size (vB HB.out)));have n3_:=Aside0.mk (below_step (vB HB.out) hb);clear HO561;clear HB;have HO561:=n0_;have HO564:=n1_;have HO568:=n2_;have HB:=n3_;clear n0_ n1_ n2_ n3_;(try clear hb);(try clear hb2);(try clear hk);(try clear hi);(try clear ho0);(try clear ho1)) | ((with_reducible refine gate_dst (N:=1) rfl ?_);(try (refine gate_guard (by rfl) ?_;dsimp only));refine box_event ?hg (N:=1) ?hd (cs:=#[.slice none 0 0,.int .u64 0,.slice none 0 0]) (t:=59) ?hr ?_;(case hd => rfl);(case hg => rfl);(case hr => first | (go_simp;done) | (go_simp;rfl));intro gb570 hg w21 hbox hb;have n0_:=Aside0.mk (Kd.R_below (vR HO561.out) hb);have n1_:=Aside0.mk (Kd.R_below (vR HO564.out) hb);have n2_:=Aside0.mk (Kd.R_below (vR HO568.out) hb);have n3_:=Aside0.mk (below_step (vB HB.out) hb);have n4_:=Aside0.mk (hbox);have n5_:=Aside0.mk ((by rw [hg];exact (below_size (vB HB.out)):w.heap.size≤gb570));have n6_:=Aside0.mk ((by rw [hg];exact (below_size (vB HB.out)):w.heap.size≤gb570));clear HO561;clear HO564;clear HO568;clear HB;have HO561:=n0_;have HO564:=n1_;have HO568:=n2_;have HB:=n3_;have BK570:=n4_;have GW570:=n5_;have GE570:=n6_;clear n0_ n1_ n2_ n3_ n4_ n5_ n6_;clear hb hbox hg;obtain ⟨Ao22,co22,eo22⟩:=Kd.R_slice HO564.out;subst eo22;have hcz23_0:w21.cell? ⟨gb570,0,none⟩ = some (.slice none 0 0):=(blk_cell BK570.out 0).trans rfl;have hcz23_1:w21.cell? ⟨gb570,1,none⟩ = some (.int .u64 0):=(blk_cell BK570.out 1).trans rfl;have hcz23_2:w21.cell? ⟨gb570,2,none⟩ = some (.slice none 0 0):=(blk_cell BK570.out 2).trans rfl;have hfz23_0:=blk_frozen BK570.out 0;have hfz23_1:=blk_frozen BK570.out 1;have hfz23_2:=blk_frozen BK570.out 2;obtain ⟨Ao24,co24,eo24⟩:=Kd.R_slice HO568.out;subst eo24;have p571:0≤(0:Int):=(by omega);have q571:0 < (t562.length:Int):=of_decide_eq_true vD;obtain ⟨ad571,e571,hx571_0⟩:=Kd.at_int (Kd.R_reads' HO564.out).2.2 0 p571 q571;cases e571;have qi571:(0 < t562.length) = True:=eq_true (by omega);(try rw [show ((0:Int)).toNat = 0 from rfl] at hx571_0);(try rw [Addr.add_zero'] at hx571_0);have hn571_0:ad571.block≠gb570:=Kd.own_blk (Kd.R_ne HO564.out BK570.out (by decide));have hn571_1:ad571.block≠gb570:=Kd.own_blk (Kd.R_ne HO564.out BK570.out (by decide));have hn571_2:ad571.block≠gb570:=Kd.own_blk (Kd.R_ne HO564.out BK570.out (by decide));replace hx571_0:=(cell_far (p:=⟨gb570,0,none⟩) (by first | (rw [add_block];exact hn571_0) | (show (Addr.add _ _).block≠_;rw [add_block];exact hn571_0) | exact hn571_0) (.slice (some ad571) t562.length co22)).trans hx571_0;replace hx571_0:=(cell_far (p:=⟨gb570,1,none⟩) (by first | (rw [add_block];exact hn571_1) | (show (Addr.add _ _).block≠_;rw [add_block];exact hn571_1) | exact hn571_1) (.int .u64 t565)).trans hx571_0;replace hx571_0:=(cell_far (p:=⟨gb570,2,none⟩) (by first | (rw [add_block];exact hn571_2) | (show (Addr.add _ _).block≠_;rw [add_block];exact hn571_2) | exact hn571_2) (.slice Ao24 t566.length co24)).trans hx571_0;clear hn571_0;clear hn571_1;clear hn571_2;replace p571:=eq_true p571;replace q571:=eq_true q571))
       go_ret
       exact ⟨by first | rfl | (simp [errW_none,errW_some] <;> rfl) | (simp [*,errW_none,errW_some] <;> rfl),by repeat (first | (with_reducible first | exact HB.out | apply below_alloc | apply pw_below_drewN | apply below_drew1 | refine below_set ?_ GE570.out) | exact HB.out)⟩
     ·
      rw [if_neg c6] at H
      have c6b0:(t565 == 10540996613548315209) = false:=beq_eq_false_iff_ne.mpr c6
      have c6b1:(t565 != 10540996613548315209) = true:=bne_iff_ne.mpr c6
      obtain rfl:=Option.some.inj H
      go_enter Try.func35,Try.ntmps35
      go_wp2_with (first | ((with_reducible refine gate_dst (N:=4) rfl ?_);(try (refine gate_guard (by rfl) ?_;dsimp only));refine Kd.R_lit (Kd.int .u64) _ 37 ?hg (N:=4) ?hd (xs:=([7]:List Int)) (inner:=[.int .u64 7]) (ok:=fun _ => True) (okp:=fun _ => True) ?hr ?hp (fun _ hk => hk) trivial (Below.refl _ _) (Nat.le_refl _) (by simp) ?_;(case hd => rfl);(case hg => rfl);(case hr => first | (go_simp;done) | (go_simp;rfl));(case hp => exact (Reps.one (show Kd.M (Kd.int .u64) _ _ _ 7 [.int .u64 7] from rfl) (Reps.none _ _)));intro v560 w25 ho26 hb hg_ hnew_;clear hg_ hnew_;(first | rw [← Ny559.out] at ho26 | (simp only [Int.reduceToNat] at ho26;rw [← Ny559.out] at ho26));have n0_:=Aside0.mk (Kd.R_lower ho26 (below_size (vB HB.out)));have n1_:=Aside0.mk (below_step (vB HB.out) hb);clear HB;have HO561:=n0_;have HB:=n1_;clear n0_ n1_;clear hb ho26;obtain ⟨Ao27,co27,eo27⟩:=Kd.R_slice HO561.out;subst eo27) | ((with_reducible refine gate_callee (f:=36) rfl ?_);refine goesL_ (some 5) rfl rfl Try.func36 (by kernel_rfl) rfl #[.slice Ao27 y559.length co27] rfl vA ?_;(with_reducible refine (mont_Setup.calls k _ _ y559 t562 t565 t566 t569 _ ?side1 ?side2 A1.out).mono ?_);(case side1 => repeat (first | exact (Kd.R_reads' HO561.out).2.2 | (with_reducible refine Kd.C_alloc ?_ _) | (with_reducible refine Kd.C_drewN ?_ _) | (with_reducible refine Kd.C_drew ?_)));(case side2 => exact (Kd.R_reads' HO561.out).2.1);rintro e w28 ⟨v563,v567,rfl,ho0,ho1,hb⟩;refine ⟨_,rfl,?_⟩;have n0_:=Aside0.mk (Kd.R_mono (Kd.R_told (Kd.R_told (Kd.R_old (vR HO561.out) hb) (Kd.R_base ho0)) (Kd.R_base ho1)) (fun _ h_ => h_.1));have n1_:=Aside0.mk (Kd.R_lower (Kd.R_new' ho0 (Kd.R_lt (vR HO561.out))) (below_size (vB HB.out)));have n2_:=Aside0.mk (Kd.R_lower (Kd.R_new' ho1 (Kd.R_lt (vR HO561.out))) (below_size (vB HB.out)));have n3_:=Aside0.mk (below_step (vB HB.out) hb);clear HO561;clear HB;have HO561:=n0_;have HO564:=n1_;have HO568:=n2_;have HB:=n3_;clear n0_ n1_ n2_ n3_;(try clear hb);(try clear hb2);(try clear hk);(try clear hi);(try clear ho0);(try clear ho1)) | ((with_reducible refine gate_dst (N:=1) rfl ?_);(try (refine gate_guard (by rfl) ?_;dsimp only));refine box_event ?hg (N:=1) ?hd (cs:=#[.slice none 0 0,.int .u64 0,.slice none 0 0]) (t:=59) ?hr ?_;(case hd => rfl);(case hg => rfl);(case hr => first | (go_simp;done) | (go_simp;rfl));intro gb570 hg w29 hbox hb;have n0_:=Aside0.mk (Kd.R_below (vR HO561.out) hb);have n1_:=Aside0.mk (Kd.R_below (vR HO564.out) hb);have n2_:=Aside0.mk (Kd.R_below (vR HO568.out) hb);have n3_:=Aside0.mk (below_step (vB HB.out) hb);have n4_:=Aside0.mk (hbox);have n5_:=Aside0.mk ((by rw [hg];exact (below_size (vB HB.out)):w.heap.size≤gb570));have n6_:=Aside0.mk ((by rw [hg];exact (below_size (vB HB.out)):w.heap.size≤gb570));clear HO561;clear HO564;clear HO568;clear HB;have HO561:=n0_;have HO564:=n1_;have HO568:=n2_;have HB:=n3_;have BK570:=n4_;have GW570:=n5_;have GE570:=n6_;clear n0_ n1_ n2_ n3_ n4_ n5_ n6_;clear hb hbox hg;obtain ⟨Ao30,co30,eo30⟩:=Kd.R_slice HO564.out;subst eo30;have hcz31_0:w29.cell? ⟨gb570,0,none⟩ = some (.slice none 0 0):=(blk_cell BK570.out 0).trans rfl;have hcz31_1:w29.cell? ⟨gb570,1,none⟩ = some (.int .u64 0):=(blk_cell BK570.out 1).trans rfl;have hcz31_2:w29.cell? ⟨gb570,2,none⟩ = some (.slice none 0 0):=(blk_cell BK570.out 2).trans rfl;have hfz31_0:=blk_frozen BK570.out 0;have hfz31_1:=blk_frozen BK570.out 1;have hfz31_2:=blk_frozen BK570.out 2;obtain ⟨Ao32,co32,eo32⟩:=Kd.R_slice HO568.out;subst eo32;have p571:0≤(0:Int):=(by omega);have q571:0 < (t562.length:Int):=of_decide_eq_true vD;obtain ⟨ad571,e571,hx571_0⟩:=Kd.at_int (Kd.R_reads' HO564.out).2.2 0 p571 q571;cases e571;have qi571:(0 < t562.length) = True:=eq_true (by omega);(try rw [show ((0:Int)).toNat = 0 from rfl] at hx571_0);(try rw [Addr.add_zero'] at hx571_0);have hn571_0:ad571.block≠gb570:=Kd.own_blk (Kd.R_ne HO564.out BK570.out (by decide));have hn571_1:ad571.block≠gb570:=Kd.own_blk (Kd.R_ne HO564.out BK570.out (by decide));have hn571_2:ad571.block≠gb570:=Kd.own_blk (Kd.R_ne HO564.out BK570.out (by decide));replace hx571_0:=(cell_far (p:=⟨gb570,0,none⟩) (by first | (rw [add_block];exact hn571_0) | (show (Addr.add _ _).block≠_;rw [add_block];exact hn571_0) | exact hn571_0) (.slice (some ad571) t562.length co30)).trans hx571_0;replace hx571_0:=(cell_far (p:=⟨gb570,1,none⟩) (by first | (rw [add_block];exact hn571_1) | (show (Addr.add _ _).block≠_;rw [add_block];exact hn571_1) | exact hn571_1) (.int .u64 t565)).trans hx571_0;replace hx571_0:=(cell_far (p:=⟨gb570,2,none⟩) (by first | (rw [add_block];exact hn571_2) | (show (Addr.add _ _).block≠_;rw [add_block];exact hn571_2) | exact hn571_2) (.slice Ao32 t566.length co32)).trans hx571_0;clear hn571_0;clear hn571_1;clear hn571_2;replace p571:=eq_true p571;replace q571:=eq_true q571))
      go_ret
      exact ⟨by first | rfl | (simp [errW_none,errW_some] <;> rfl) | (simp [*,errW_none,errW_some] <;> rfl),by repeat (first | (with_reducible first | exact HB.out | apply below_alloc | apply pw_below_drewN | apply below_drew1 | refine below_set ?_ GE570.out) | exact HB.out)⟩
    ·
     rw [if_neg c5] at H
     have c5b0:((rd t562 0) == 7) = false:=beq_eq_false_iff_ne.mpr c5
     have c5b1:((rd t562 0) != 7) = true:=bne_iff_ne.mpr c5
     obtain rfl:=Option.some.inj H
     go_enter Try.func35,Try.ntmps35
     go_wp2_with (first | ((with_reducible refine gate_dst (N:=4) rfl ?_);(try (refine gate_guard (by rfl) ?_;dsimp only));refine Kd.R_lit (Kd.int .u64) _ 37 ?hg (N:=4) ?hd (xs:=([7]:List Int)) (inner:=[.int .u64 7]) (ok:=fun _ => True) (okp:=fun _ => True) ?hr ?hp (fun _ hk => hk) trivial (Below.refl _ _) (Nat.le_refl _) (by simp) ?_;(case hd => rfl);(case hg => rfl);(case hr => first | (go_simp;done) | (go_simp;rfl));(case hp => exact (Reps.one (show Kd.M (Kd.int .u64) _ _ _ 7 [.int .u64 7] from rfl) (Reps.none _ _)));intro v560 w33 ho34 hb hg_ hnew_;clear hg_ hnew_;(first | rw [← Ny559.out] at ho34 | (simp only [Int.reduceToNat] at ho34;rw [← Ny559.out] at ho34));have n0_:=Aside0.mk (Kd.R_lower ho34 (below_size (vB HB.out)));have n1_:=Aside0.mk (below_step (vB HB.out) hb);clear HB;have HO561:=n0_;have HB:=n1_;clear n0_ n1_;clear hb ho34;obtain ⟨Ao35,co35,eo35⟩:=Kd.R_slice HO561.out;subst eo35) | ((with_reducible refine gate_callee (f:=36) rfl ?_);refine goesL_ (some 5) rfl rfl Try.func36 (by kernel_rfl) rfl #[.slice Ao35 y559.length co35] rfl vA ?_;(with_reducible refine (mont_Setup.calls k _ _ y559 t562 t565 t566 t569 _ ?side1 ?side2 A1.out).mono ?_);(case side1 => repeat (first | exact (Kd.R_reads' HO561.out).2.2 | (with_reducible refine Kd.C_alloc ?_ _) | (with_reducible refine Kd.C_drewN ?_ _) | (with_reducible refine Kd.C_drew ?_)));(case side2 => exact (Kd.R_reads' HO561.out).2.1);rintro e w36 ⟨v563,v567,rfl,ho0,ho1,hb⟩;refine ⟨_,rfl,?_⟩;have n0_:=Aside0.mk (Kd.R_mono (Kd.R_told (Kd.R_told (Kd.R_old (vR HO561.out) hb) (Kd.R_base ho0)) (Kd.R_base ho1)) (fun _ h_ => h_.1));have n1_:=Aside0.mk (Kd.R_lower (Kd.R_new' ho0 (Kd.R_lt (vR HO561.out))) (below_size (vB HB.out)));have n2_:=Aside0.mk (Kd.R_lower (Kd.R_new' ho1 (Kd.R_lt (vR HO561.out))) (below_size (vB HB.out)));have n3_:=Aside0.mk (below_step (vB HB.out) hb);clear HO561;clear HB;have HO561:=n0_;have HO564:=n1_;have HO568:=n2_;have HB:=n3_;clear n0_ n1_ n2_ n3_;(try clear hb);(try clear hb2);(try clear hk);(try clear hi);(try clear ho0);(try clear ho1)) | ((with_reducible refine gate_dst (N:=1) rfl ?_);(try (refine gate_guard (by rfl) ?_;dsimp only));refine box_event ?hg (N:=1) ?hd (cs:=#[.slice none 0 0,.int .u64 0,.slice none 0 0]) (t:=59) ?hr ?_;(case hd => rfl);(case hg => rfl);(case hr => first | (go_simp;done) | (go_simp;rfl));intro gb570 hg w37 hbox hb;have n0_:=Aside0.mk (Kd.R_below (vR HO561.out) hb);have n1_:=Aside0.mk (Kd.R_below (vR HO564.out) hb);have n2_:=Aside0.mk (Kd.R_below (vR HO568.out) hb);have n3_:=Aside0.mk (below_step (vB HB.out) hb);have n4_:=Aside0.mk (hbox);have n5_:=Aside0.mk ((by rw [hg];exact (below_size (vB HB.out)):w.heap.size≤gb570));have n6_:=Aside0.mk ((by rw [hg];exact (below_size (vB HB.out)):w.heap.size≤gb570));clear HO561;clear HO564;clear HO568;clear HB;have HO561:=n0_;have HO564:=n1_;have HO568:=n2_;have HB:=n3_;have BK570:=n4_;have GW570:=n5_;have GE570:=n6_;clear n0_ n1_ n2_ n3_ n4_ n5_ n6_;clear hb hbox hg;obtain ⟨Ao38,co38,eo38⟩:=Kd.R_slice HO564.out;subst eo38;have hcz39_0:w37.cell? ⟨gb570,0,none⟩ = some (.slice none 0 0):=(blk_cell BK570.out 0).trans rfl;have hcz39_1:w37.cell? ⟨gb570,1,none⟩ = some (.int .u64 0):=(blk_cell BK570.out 1).trans rfl;have hcz39_2:w37.cell? ⟨gb570,2,none⟩ = some (.slice none 0 0):=(blk_cell BK570.out 2).trans rfl;have hfz39_0:=blk_frozen BK570.out 0;have hfz39_1:=blk_frozen BK570.out 1;have hfz39_2:=blk_frozen BK570.out 2;obtain ⟨Ao40,co40,eo40⟩:=Kd.R_slice HO568.out;subst eo40;have p571:0≤(0:Int):=(by omega);have q571:0 < (t562.length:Int):=of_decide_eq_true vD;obtain ⟨ad571,e571,hx571_0⟩:=Kd.at_int (Kd.R_reads' HO564.out).2.2 0 p571 q571;cases e571;have qi571:(0 < t562.length) = True:=eq_true (by omega);(try rw [show ((0:Int)).toNat = 0 from rfl] at hx571_0);(try rw [Addr.add_zero'] at hx571_0);have hn571_0:ad571.block≠gb570:=Kd.own_blk (Kd.R_ne HO564.out BK570.out (by decide));have hn571_1:ad571.block≠gb570:=Kd.own_blk (Kd.R_ne HO564.out BK570.out (by decide));have hn571_2:ad571.block≠gb570:=Kd.own_blk (Kd.R_ne HO564.out BK570.out (by decide));replace hx571_0:=(cell_far (p:=⟨gb570,0,none⟩) (by first | (rw [add_block];exact hn571_0) | (show (Addr.add _ _).block≠_;rw [add_block];exact hn571_0) | exact hn571_0) (.slice (some ad571) t562.length co38)).trans hx571_0;replace hx571_0:=(cell_far (p:=⟨gb570,1,none⟩) (by first | (rw [add_block];exact hn571_1) | (show (Addr.add _ _).block≠_;rw [add_block];exact hn571_1) | exact hn571_1) (.int .u64 t565)).trans hx571_0;replace hx571_0:=(cell_far (p:=⟨gb570,2,none⟩) (by first | (rw [add_block];exact hn571_2) | (show (Addr.add _ _).block≠_;rw [add_block];exact hn571_2) | exact hn571_2) (.slice Ao40 t566.length co40)).trans hx571_0;clear hn571_0;clear hn571_1;clear hn571_2;replace p571:=eq_true p571;replace q571:=eq_true q571))
     go_ret
     exact ⟨by first | rfl | (simp [errW_none,errW_some] <;> rfl) | (simp [*,errW_none,errW_some] <;> rfl),by repeat (first | (with_reducible first | exact HB.out | apply below_alloc | apply pw_below_drewN | apply below_drew1 | refine below_set ?_ GE570.out) | exact HB.out)⟩
   ·
    rw [if_neg c4] at H
    exact absurd H (by simp)
  ·
   rw [if_neg c3] at H
   have c3b0:((t562.length:Int) == 1) = false:=beq_eq_false_iff_ne.mpr c3
   have c3b1:((t562.length:Int) != 1) = true:=bne_iff_ne.mpr c3
   obtain rfl:=Option.some.inj H
   go_enter Try.func35,Try.ntmps35
   go_wp2_with (first | ((with_reducible refine gate_dst (N:=4) rfl ?_);(try (refine gate_guard (by rfl) ?_;dsimp only));refine Kd.R_lit (Kd.int .u64) _ 37 ?hg (N:=4) ?hd (xs:=([7]:List Int)) (inner:=[.int .u64 7]) (ok:=fun _ => True) (okp:=fun _ => True) ?hr ?hp (fun _ hk => hk) trivial (Below.refl _ _) (Nat.le_refl _) (by simp) ?_;(case hd => rfl);(case hg => rfl);(case hr => first | (go_simp;done) | (go_simp;rfl));(case hp => exact (Reps.one (show Kd.M (Kd.int .u64) _ _ _ 7 [.int .u64 7] from rfl) (Reps.none _ _)));intro v560 w41 ho42 hb hg_ hnew_;clear hg_ hnew_;(first | rw [← Ny559.out] at ho42 | (simp only [Int.reduceToNat] at ho42;rw [← Ny559.out] at ho42));have n0_:=Aside0.mk (Kd.R_lower ho42 (below_size (vB HB.out)));have n1_:=Aside0.mk (below_step (vB HB.out) hb);clear HB;have HO561:=n0_;have HB:=n1_;clear n0_ n1_;clear hb ho42;obtain ⟨Ao43,co43,eo43⟩:=Kd.R_slice HO561.out;subst eo43) | ((with_reducible refine gate_callee (f:=36) rfl ?_);refine goesL_ (some 5) rfl rfl Try.func36 (by kernel_rfl) rfl #[.slice Ao43 y559.length co43] rfl vA ?_;(with_reducible refine (mont_Setup.calls k _ _ y559 t562 t565 t566 t569 _ ?side1 ?side2 A1.out).mono ?_);(case side1 => repeat (first | exact (Kd.R_reads' HO561.out).2.2 | (with_reducible refine Kd.C_alloc ?_ _) | (with_reducible refine Kd.C_drewN ?_ _) | (with_reducible refine Kd.C_drew ?_)));(case side2 => exact (Kd.R_reads' HO561.out).2.1);rintro e w44 ⟨v563,v567,rfl,ho0,ho1,hb⟩;refine ⟨_,rfl,?_⟩;have n0_:=Aside0.mk (Kd.R_mono (Kd.R_told (Kd.R_told (Kd.R_old (vR HO561.out) hb) (Kd.R_base ho0)) (Kd.R_base ho1)) (fun _ h_ => h_.1));have n1_:=Aside0.mk (Kd.R_lower (Kd.R_new' ho0 (Kd.R_lt (vR HO561.out))) (below_size (vB HB.out)));have n2_:=Aside0.mk (Kd.R_lower (Kd.R_new' ho1 (Kd.R_lt (vR HO561.out))) (below_size (vB HB.out)));have n3_:=Aside0.mk (below_step (vB HB.out) hb);clear HO561;clear HB;have HO561:=n0_;have HO564:=n1_;have HO568:=n2_;have HB:=n3_;clear n0_ n1_ n2_ n3_;(try clear hb);(try clear hb2);(try clear hk);(try clear hi);(try clear ho0);(try clear ho1)) | ((with_reducible refine gate_dst (N:=1) rfl ?_);(try (refine gate_guard (by rfl) ?_;dsimp only));refine box_event ?hg (N:=1) ?hd (cs:=#[.slice none 0 0,.int .u64 0,.slice none 0 0]) (t:=59) ?hr ?_;(case hd => rfl);(case hg => rfl);(case hr => first | (go_simp;done) | (go_simp;rfl));intro gb570 hg w45 hbox hb;have n0_:=Aside0.mk (Kd.R_below (vR HO561.out) hb);have n1_:=Aside0.mk (Kd.R_below (vR HO564.out) hb);have n2_:=Aside0.mk (Kd.R_below (vR HO568.out) hb);have n3_:=Aside0.mk (below_step (vB HB.out) hb);have n4_:=Aside0.mk (hbox);have n5_:=Aside0.mk ((by rw [hg];exact (below_size (vB HB.out)):w.heap.size≤gb570));have n6_:=Aside0.mk ((by rw [hg];exact (below_size (vB HB.out)):w.heap.size≤gb570));clear HO561;clear HO564;clear HO568;clear HB;have HO561:=n0_;have HO564:=n1_;have HO568:=n2_;have HB:=n3_;have BK570:=n4_;have GW570:=n5_;have GE570:=n6_;clear n0_ n1_ n2_ n3_ n4_ n5_ n6_;clear hb hbox hg;obtain ⟨Ao46,co46,eo46⟩:=Kd.R_slice HO564.out;subst eo46;have hcz47_0:w45.cell? ⟨gb570,0,none⟩ = some (.slice none 0 0):=(blk_cell BK570.out 0).trans rfl;have hcz47_1:w45.cell? ⟨gb570,1,none⟩ = some (.int .u64 0):=(blk_cell BK570.out 1).trans rfl;have hcz47_2:w45.cell? ⟨gb570,2,none⟩ = some (.slice none 0 0):=(blk_cell BK570.out 2).trans rfl;have hfz47_0:=blk_frozen BK570.out 0;have hfz47_1:=blk_frozen BK570.out 1;have hfz47_2:=blk_frozen BK570.out 2;obtain ⟨Ao48,co48,eo48⟩:=Kd.R_slice HO568.out;subst eo48))
   go_ret
   exact ⟨by first | rfl | (simp [errW_none,errW_some] <;> rfl) | (simp [*,errW_none,errW_some] <;> rfl),by repeat (first | (with_reducible first | exact HB.out | apply below_alloc | apply pw_below_drewN | apply below_drew1 | refine below_set ?_ GE570.out) | exact HB.out)⟩
 ·
  rw [if_neg c2] at H
  have c2b0:(t569 == 0) = false:=beq_eq_false_iff_ne.mpr c2
  have c2b1:(t569 != 0) = true:=bne_iff_ne.mpr c2
  obtain rfl:=Option.some.inj H
  go_enter Try.func35,Try.ntmps35
  go_wp2_with (first | ((with_reducible refine gate_dst (N:=4) rfl ?_);(try (refine gate_guard (by rfl) ?_;dsimp only));refine Kd.R_lit (Kd.int .u64) _ 37 ?hg (N:=4) ?hd (xs:=([7]:List Int)) (inner:=[.int .u64 7]) (ok:=fun _ => True) (okp:=fun _ => True) ?hr ?hp (fun _ hk => hk) trivial (Below.refl _ _) (Nat.le_refl _) (by simp) ?_;(case hd => rfl);(case hg => rfl);(case hr => first | (go_simp;done) | (go_simp;rfl));(case hp => exact (Reps.one (show Kd.M (Kd.int .u64) _ _ _ 7 [.int .u64 7] from rfl) (Reps.none _ _)));intro v560 w49 ho50 hb hg_ hnew_;clear hg_ hnew_;(first | rw [← Ny559.out] at ho50 | (simp only [Int.reduceToNat] at ho50;rw [← Ny559.out] at ho50));have n0_:=Aside0.mk (Kd.R_lower ho50 (below_size (vB HB.out)));have n1_:=Aside0.mk (below_step (vB HB.out) hb);clear HB;have HO561:=n0_;have HB:=n1_;clear n0_ n1_;clear hb ho50;obtain ⟨Ao51,co51,eo51⟩:=Kd.R_slice HO561.out;subst eo51) | ((with_reducible refine gate_callee (f:=36) rfl ?_);refine goesL_ (some 5) rfl rfl Try.func36 (by kernel_rfl) rfl #[.slice Ao51 y559.length co51] rfl vA ?_;(with_reducible refine (mont_Setup.calls k _ _ y559 t562 t565 t566 t569 _ ?side1 ?side2 A1.out).mono ?_);(case side1 => repeat (first | exact (Kd.R_reads' HO561.out).2.2 | (with_reducible refine Kd.C_alloc ?_ _) | (with_reducible refine Kd.C_drewN ?_ _) | (with_reducible refine Kd.C_drew ?_)));(case side2 => exact (Kd.R_reads' HO561.out).2.1);rintro e w52 ⟨v563,v567,rfl,ho0,ho1,hb⟩;refine ⟨_,rfl,?_⟩;have n0_:=Aside0.mk (Kd.R_mono (Kd.R_told (Kd.R_told (Kd.R_old (vR HO561.out) hb) (Kd.R_base ho0)) (Kd.R_base ho1)) (fun _ h_ => h_.1));have n1_:=Aside0.mk (Kd.R_lower (Kd.R_new' ho0 (Kd.R_lt (vR HO561.out))) (below_size (vB HB.out)));have n2_:=Aside0.mk (Kd.R_lower (Kd.R_new' ho1 (Kd.R_lt (vR HO561.out))) (below_size (vB HB.out)));have n3_:=Aside0.mk (below_step (vB HB.out) hb);clear HO561;clear HB;have HO561:=n0_;have HO564:=n1_;have HO568:=n2_;have HB:=n3_;clear n0_ n1_ n2_ n3_;(try clear hb);(try clear hb2);(try clear hk);(try clear hi);(try clear ho0);(try clear ho1)) | ((with_reducible refine gate_dst (N:=1) rfl ?_);(try (refine gate_guard (by rfl) ?_;dsimp only));refine box_event ?hg (N:=1) ?hd (cs:=#[.slice none 0 0,.int .u64 0,.slice none 0 0]) (t:=59) ?hr ?_;(case hd => rfl);(case hg => rfl);(case hr => first | (go_simp;done) | (go_simp;rfl));intro gb570 hg w53 hbox hb;have n0_:=Aside0.mk (Kd.R_below (vR HO561.out) hb);have n1_:=Aside0.mk (Kd.R_below (vR HO564.out) hb);have n2_:=Aside0.mk (Kd.R_below (vR HO568.out) hb);have n3_:=Aside0.mk (below_step (vB HB.out) hb);have n4_:=Aside0.mk (hbox);have n5_:=Aside0.mk ((by rw [hg];exact (below_size (vB HB.out)):w.heap.size≤gb570));have n6_:=Aside0.mk ((by rw [hg];exact (below_size (vB HB.out)):w.heap.size≤gb570));clear HO561;clear HO564;clear HO568;clear HB;have HO561:=n0_;have HO564:=n1_;have HO568:=n2_;have HB:=n3_;have BK570:=n4_;have GW570:=n5_;have GE570:=n6_;clear n0_ n1_ n2_ n3_ n4_ n5_ n6_;clear hb hbox hg;obtain ⟨Ao54,co54,eo54⟩:=Kd.R_slice HO564.out;subst eo54;have hcz55_0:w53.cell? ⟨gb570,0,none⟩ = some (.slice none 0 0):=(blk_cell BK570.out 0).trans rfl;have hcz55_1:w53.cell? ⟨gb570,1,none⟩ = some (.int .u64 0):=(blk_cell BK570.out 1).trans rfl;have hcz55_2:w53.cell? ⟨gb570,2,none⟩ = some (.slice none 0 0):=(blk_cell BK570.out 2).trans rfl;have hfz55_0:=blk_frozen BK570.out 0;have hfz55_1:=blk_frozen BK570.out 1;have hfz55_2:=blk_frozen BK570.out 2;obtain ⟨Ao56,co56,eo56⟩:=Kd.R_slice HO568.out;subst eo56))
  go_ret
  exact ⟨by first | rfl | (simp [errW_none,errW_some] <;> rfl) | (simp [*,errW_none,errW_some] <;> rfl),by repeat (first | (with_reducible first | exact HB.out | apply below_alloc | apply pw_below_drewN | apply below_drew1 | refine below_set ?_ GE570.out) | exact HB.out)⟩
def sconceref01_Inverse.l0:Nat→Int→Int→Int→Option (Int)
 | 0,_,_,_ => none
 | k + 1,x0,x3,x4 => if x4 < 64 then (if 0≤(IntKind.u64.wrap (x4)) then ((sconceref01_One.f (x4 == 0)).bind fun t573 => (if (Go.bits .and .u64 (shr .u64 (IntKind.u64.wrap (x0 * x3)) (IntKind.u64.wrap (x4))) 1) = t573 then (sconceref01_Inverse.l0 k x0 x3 (wrap64 (x4 + 1))) else (sconceref01_Inverse.l0 k x0 (Go.bits .or .u64 x3 (shl .u64 1 (IntKind.u64.wrap (x4)))) (wrap64 (x4 + 1))))) else (none)) else (some x3)
def sconceref01_Inverse.f (k:Nat) (a0:Int):Option (Int):=if (Int.tmod a0 2) = 0 then (some 0) else (sconceref01_Inverse.l0 k a0 0 0)
theorem sconceref01_Inverse.calls (k:Nat) (a0:Int) (r:Int) (w:World) (h:sconceref01_Inverse.f k a0 = some r) :
  Calls Try.prog 77 #[.int .u64 a0] w fun e w' => e = .returned (.int .u64 r)∧Drawn0 w w':=by
 have H:(if (Int.tmod a0 2) = 0 then (some 0) else (sconceref01_Inverse.l0 k a0 0 0)) = some r:=h
 clear h
 by_cases c2:(Int.tmod a0 2) = 0
 ·
  rw [if_pos c2] at H
  have c2b0:((Int.tmod a0 2) == 0) = true:=beq_iff_eq.mpr c2
  have c2b1:((Int.tmod a0 2) != 0) = false:=bne_eq_false_iff_eq.mpr c2
  clear c2
  obtain rfl:=Option.some.inj H
  go_enter Try.func77,Try.ntmps77
  go_wp2
  go_ret
  exact ⟨by first | rfl | (simp;done) | (simp [*];done),by repeat (first | exact Drawn0.refl _ | apply Drawn0.step)⟩
 ·
  rw [if_neg c2] at H
  have c2b0:((Int.tmod a0 2) == 0) = false:=beq_eq_false_iff_ne.mpr c2
  have c2b1:((Int.tmod a0 2) != 0) = true:=bne_iff_ne.mpr c2
  have H':=Aside0.mk H
  clear H
  go_enter Try.func77,Try.ntmps77
  go_wp2
  go_loopg [3,4] k (fun kq v3 v4 w' => ∃ (x3_1:Int) (x4_1:Int),v3 = .int .u64 x3_1∧v4 = .int .i64 x4_1∧Aside0 (sconceref01_Inverse.l0 kq a0 x3_1 x4_1 = some r)∧Aside0 (kq≤k)∧Drawn0 w w')
  case atStart => exact ⟨(0),(0),(by first | rfl | (simp;done) | (simp [*];done)),(by first | rfl | (simp;done) | (simp [*];done)),H',⟨Nat.le_refl _⟩,by repeat (first | exact Drawn0.refl _ | apply Drawn0.step)⟩
  case round =>
   clear H'
   try clear c2
   try clear c2b0
   try clear c2b1
   try clear p2
   obtain ⟨x3_1,x4_1,rfl,rfl,HA,HK1,⟨m1,rfl⟩⟩:=hrel
   cases gk with
   | zero => exact absurd HA.out (by simp [sconceref01_Inverse.l0])
   | succ k1 =>
    have H:=HA.out
    clear HA
    simp only [sconceref01_Inverse.l0] at H
    by_cases c3:x4_1 < 64
    ·
     rw [if_pos c3] at H
     have c3b0:decide (x4_1 < 64) = true:=decide_eq_true c3
     clear c3
     obtain ⟨ji4,hji4⟩:∃ j_:Int,(IntKind.u64.wrap (x4_1)) = j_:=⟨_,rfl⟩
     replace H:(if 0≤(ji4) then ((sconceref01_One.f (x4_1 == 0)).bind fun t573 => (if (Go.bits .and .u64 (shr .u64 (IntKind.u64.wrap (a0 * x3_1)) (ji4)) 1) = t573 then (sconceref01_Inverse.l0 k1 a0 x3_1 (wrap64 (x4_1 + 1))) else (sconceref01_Inverse.l0 k1 a0 (Go.bits .or .u64 x3_1 (shl .u64 1 (ji4))) (wrap64 (x4_1 + 1))))) else (none)) = some r:=by first | (rw [hji4] at H;exact H) | (simp only [hji4] at H ⊢;exact H)
     by_cases c5:0≤(ji4)
     ·
      rw [if_pos c5] at H
      have c5b0:=eq_true c5
      have c5b1:decide (0≤(ji4)) = true:=decide_eq_true c5
      clear c5
      obtain ⟨ji6,hji6⟩:∃ j_:Int,(shr .u64 (IntKind.u64.wrap (a0 * x3_1)) (ji4)) = j_:=⟨_,rfl⟩
      replace H:((sconceref01_One.f (x4_1 == 0)).bind fun t573 => (if (Go.bits .and .u64 (ji6) 1) = t573 then (sconceref01_Inverse.l0 k1 a0 x3_1 (wrap64 (x4_1 + 1))) else (sconceref01_Inverse.l0 k1 a0 (Go.bits .or .u64 x3_1 (shl .u64 1 (ji4))) (wrap64 (x4_1 + 1))))) = some r:=by first | (rw [hji6] at H;exact H) | (simp only [hji6] at H ⊢;exact H)
      have hji6_:((IntKind.u64.wrap (a0 * x3_1)) / 2 ^ min (ji4).toNat 64) = ji6:=hji6
      have hji6z:(ji4)≤64→((IntKind.u64.wrap (a0 * x3_1)) / 2 ^ (ji4).toNat) = ji6:=shr_small hji6
      replace H:=Option.bind_eq_some_iff.mp H
      obtain ⟨t573,A70,H⟩:=H
      replace H:(if (Go.bits .and .u64 (ji6) 1) = t573 then (sconceref01_Inverse.l0 k1 a0 x3_1 (wrap64 (x4_1 + 1))) else (sconceref01_Inverse.l0 k1 a0 (Go.bits .or .u64 x3_1 (shl .u64 1 (ji4))) (wrap64 (x4_1 + 1)))) = some r:=H
      have A7:=Aside0.mk A70
      clear A70
      by_cases c8:(Go.bits .and .u64 (ji6) 1) = t573
      ·
       rw [if_pos c8] at H
       have c8b0:((Go.bits .and .u64 (ji6) 1) == t573) = true:=beq_iff_eq.mpr c8
       have c8b1:((Go.bits .and .u64 (ji6) 1) != t573) = false:=bne_eq_false_iff_eq.mpr c8
       clear c8
       have H':=Aside0.mk H
       clear H
       go_wp2_with (first | ((with_reducible refine gate_callee (f:=107) rfl ?_);refine goesL_ (some 21) rfl rfl Try.func107 (by kernel_rfl) rfl #[.bool (x4_1 == 0)] rfl vA ?_;(with_reducible refine (sconceref01_One.calls (x4_1 == 0) t573 _ A7.out).mono ?_);rintro e w' ⟨rfl,⟨nd,rfl⟩⟩;refine ⟨_,rfl,?_⟩))
       go_roundg k1
       case measure => have:=HK1.out;omega
       case rel => exact ⟨(x3_1),(wrap64 (x4_1 + 1)),(by first | rfl | (simp;done) | (simp [*];done)),(by first | rfl | (simp;done) | (simp [*];done)),H',⟨by have:=HK1.out;omega⟩,by repeat (first | exact Drawn0.refl _ | apply Drawn0.step)⟩
      ·
       rw [if_neg c8] at H
       have c8b0:((Go.bits .and .u64 (ji6) 1) == t573) = false:=beq_eq_false_iff_ne.mpr c8
       have c8b1:((Go.bits .and .u64 (ji6) 1) != t573) = true:=bne_iff_ne.mpr c8
       have c9b0:=eq_true (of_decide_eq_true vD:0≤(ji4))
       obtain ⟨ji10,hji10⟩:∃ j_:Int,(shl .u64 1 (ji4)) = j_:=⟨_,rfl⟩
       replace H:(sconceref01_Inverse.l0 k1 a0 (Go.bits .or .u64 x3_1 (ji10)) (wrap64 (x4_1 + 1))) = some r:=by first | (rw [hji10] at H;exact H) | (simp only [hji10] at H ⊢;exact H)
       (try rw [hji10] at A7)
       have hji10_:(IntKind.u64.wrap (1 * 2 ^ min (ji4).toNat 64)) = ji10:=hji10
       have hji10z:(ji4)≤64→(IntKind.u64.wrap (1 * 2 ^ (ji4).toNat)) = ji10:=shl_small hji10
       have hji10u:(IntKind.u64.wrap (2 ^ min (ji4).toNat 64)) = ji10:=by have h_:=hji10_;rw [Int.one_mul] at h_;exact h_
       have hji10v:(ji4)≤64→(IntKind.u64.wrap (2 ^ (ji4).toNat)) = ji10:=fun hle_ => by have h_:=hji10z hle_;rw [Int.one_mul] at h_;exact h_
       have H':=Aside0.mk H
       clear H
       go_wp2_with (first | ((with_reducible refine gate_callee (f:=107) rfl ?_);refine goesL_ (some 21) rfl rfl Try.func107 (by kernel_rfl) rfl #[.bool (x4_1 == 0)] rfl vA ?_;(with_reducible refine (sconceref01_One.calls (x4_1 == 0) t573 _ A7.out).mono ?_);rintro e w' ⟨rfl,⟨nd,rfl⟩⟩;refine ⟨_,rfl,?_⟩))
       go_roundg k1
       case measure => have:=HK1.out;omega
       case rel => exact ⟨(Go.bits .or .u64 x3_1 (ji10)),(wrap64 (x4_1 + 1)),(by first | rfl | (simp;done) | (simp only [← hji10] <;> (first | rfl | simp)) | (simp [*];done)),(by first | rfl | (simp;done) | (simp [*];done)),H',⟨by have:=HK1.out;omega⟩,by repeat (first | exact Drawn0.refl _ | apply Drawn0.step)⟩
     ·
      rw [if_neg c5] at H
      exact absurd H (by simp)
    ·
     rw [if_neg c3] at H
     have c3b0:decide (x4_1 < 64) = false:=decide_eq_false c3
     clear c3
     obtain rfl:=Option.some.inj H
     go_wp2
     go_ret
     exact ⟨by first | rfl | (simp;done) | (simp [*];done),by repeat (first | exact Drawn0.refl _ | apply Drawn0.step)⟩
def sconceref03_Mod.f (l0:List Int) (l1:List Int):Option (List Int):=(sconceref03_DivMod.f l0 l1).bind fun bt574 => (some bt574.2)
theorem sconceref03_Mod.calls (P0_:Nat→Prop) (A0:Option Addr) (c0:Nat) (l0:List Int) (A1:Option Addr) (c1:Nat) (l1:List Int) (r:List Int) (w:World) (hs0:Kd.V (Kd.int .u32) 78 w w.heap.size (fun k_ => P0_ k_) (.slice A0 l0.length c0) l0) (hr1:Kd.C (Kd.int .u32) w A1 l1.length l1) (hc1:l1.length≤c1) (h:sconceref03_Mod.f l0 l1 = some r) :
  Calls Try.prog 78 #[.slice A0 l0.length c0,.slice A1 l1.length c1] w fun e w' => ∃ v0_:Value,e = .returned (v0_)∧Kd.V (Kd.int .u32) 78 w' w.heap.size (fun k_ => (P0_ k_∨w.heap.size≤k_)) v0_ r∧Below w.heap.size w w':=by
 have HO0:=Aside0.mk (show Kd.V (Kd.int .u32) 78 w w.heap.size (fun k_ => (P0_ k_∨w.heap.size≤k_)) (.slice A0 l0.length c0) l0 from Kd.V_mono hs0 (fun k_ hk => .inl hk))
 have HR1:=Aside0.mk hr1
 have HC1:=Aside0.mk hc1
 clear hr1 hc1
 have HB:=Aside0.mk (Below.refl w.heap.size w)
 have H:((sconceref03_DivMod.f l0 l1).bind fun bt574 => (some bt574.2)) = some r:=h
 clear h
 replace H:=Option.bind_eq_some_iff.mp H
 obtain ⟨⟨t574,t577⟩,A30,H⟩:=H
 replace H:(some t577) = some r:=H
 have A3:=Aside0.mk A30
 clear A30
 obtain rfl:=Option.some.inj H
 go_enter Try.func78,Try.ntmps78
 go_wp2_with (first | ((with_reducible refine gate_callee (f:=70) rfl ?_);refine goesL_ (some 10) rfl rfl Try.func70 (by kernel_rfl) rfl #[.slice A0 l0.length c0,.slice A1 l1.length c1] rfl vA ?_;(with_reducible refine (sconceref03_DivMod.calls (fun k_ => (P0_ k_∨w.heap.size≤k_)) _ _ l0 _ _ l1 t574 t577 _ ?side1 ?side2 ?side3 A3.out).mono ?_);(case side1 => exact HO0.out);(case side2 => repeat (first | exact HR1.out | (with_reducible refine Kd.C_alloc ?_ _) | (with_reducible refine Kd.C_drewN ?_ _) | (with_reducible refine Kd.C_drew ?_)));(case side3 => exact HC1.out);rintro e w4 ⟨v575,v578,rfl,ho0,ho1,hb⟩;refine ⟨_,rfl,?_⟩;have n0_:=Aside0.mk (Kd.V_below (vV HO0.out) hb);have n1_:=Aside0.mk (Kd.V_lower (Kd.V_mono (ok':=fun k_ => (P0_ k_∨w.heap.size≤k_)) ho0 (fun k_ hk_ => Or.elim hk_ (fun hs_ => hs_) (fun hn_ => (.inr (Nat.le_trans (below_size (vB HB.out)) hn_))))) (below_size (vB HB.out)));have n2_:=Aside0.mk (Kd.V_lower (Kd.V_mono (ok':=fun k_ => (P0_ k_∨w.heap.size≤k_)) ho1 (fun k_ hk_ => Or.elim hk_ (fun hs_ => hs_) (fun hn_ => (.inr (Nat.le_trans (below_size (vB HB.out)) hn_))))) (below_size (vB HB.out)));have n3_:=Aside0.mk (below_step (vB HB.out) hb);clear HO0;clear HB;have HO0:=n0_;have HO576:=n1_;have HO579:=n2_;have HB:=n3_;clear n0_ n1_ n2_ n3_;(try clear hb);(try clear hb2);(try clear hk);(try clear hi);(try clear ho0);(try clear ho1)))
 go_ret
 exact ⟨_,by first | rfl | (simp [errW_none,errW_some] <;> rfl) | (simp [*,errW_none,errW_some] <;> rfl),by (with_reducible repeat (first | apply Kd.V_alloc | apply Kd.V_drewN | apply Kd.V_drew));exact HO579.out,by repeat (first | (with_reducible first | exact HB.out | apply below_alloc | apply pw_below_drewN | apply below_drew1) | exact HB.out)⟩
mutual
def sconceref06_Setup.j1:Nat→List Int→Int→Option (List Int × Int × List Int × Int)
 | 0,_,_ => none
 | k + 1,x0,x4 => if x4 > 130 then (some (([]:List Int),0,([]:List Int),2)) else (if 0≤x4 then (if x4≤(x0.length:Int) then ((sconceref03_Of.f k (x0.take (x4:Int).toNat)).bind fun t583 => ((sconceref03_Small.f k 2).bind fun t586 => ((sconceref03_Cmp.f k t583 t586).bind fun t589 => (if t589 < 0 then (some (([]:List Int),0,([]:List Int),1)) else (if 0 < (t583.length:Int) then (if (Int.tmod (rd t583 0) 2) = 0 then (some (([]:List Int),0,([]:List Int),60)) else ((sconceref03_Least.f k t583).bind fun t591 => (if 0 < (t591.length:Int) then ((sconceref01_Inverse.f k (rd t591 0)).bind fun t596 => ((sconceref03_Small.f k 1).bind fun t597 => ((sconceref03_Shl.f k t597 (wrap64 (128 * x4))).bind fun t600 => ((sconceref03_Mod.f t600 t583).bind fun t603 => ((sconceref03_Nat.f k t603 x4).bind fun t606 => (some (t591,IntKind.u64.wrap (-t596),t606,0))))))) else (none)))) else (none)))))) else (none)) else (none))
def sconceref06_Setup.l0:Nat→List Int→Int→Option (List Int × Int × List Int × Int)
 | 0,_,_ => none
 | k + 1,x0,x4 => if x4 > 0 then (if 0≤(wrap64 (x4 - 1)) then (if (wrap64 (x4 - 1)) < (x0.length:Int) then (if (rd x0 (wrap64 (x4 - 1))) = 0 then (sconceref06_Setup.l0 k x0 (wrap64 (x4 - 1))) else (sconceref06_Setup.j1 k x0 x4)) else (none)) else (none)) else (sconceref06_Setup.j1 k x0 x4)
end
def sconceref06_Setup.f (k:Nat) (l0:List Int):Option (List Int × Int × List Int × Int):=sconceref06_Setup.l0 k l0 (l0.length:Int)
theorem sconceref06_Setup.calls (k:Nat) (A0:Option Addr) (c0:Nat) (l0:List Int) (r1:List Int) (r2:Int) (r3:List Int) (r4:Int) (w:World) (hr0:Kd.C (Kd.int .u64) w A0 l0.length l0) (hc0:l0.length≤c0) (h:sconceref06_Setup.f k l0 = some (r1,r2,r3,r4)) :
  Calls Try.prog 37 #[.slice A0 l0.length c0] w fun e w' => ∃ v0_ v2_:Value,e = .returned (.tuple #[.agg #[v0_,.int .u64 r2,v2_],.int .i64 r4])∧Kd.R (Kd.int .u64) 37 w' w.heap.size (fun k_ => some k_≠(v2_:Value).ownBlock) v0_ r1∧Kd.R (Kd.int .u64) 37 w' w.heap.size (fun k_ => some k_≠(v0_:Value).ownBlock) v2_ r3∧Below w.heap.size w w':=by
 have hu59:=Try.underlying59
 have HR0:=Aside0.mk hr0
 have HC0:=Aside0.mk hc0
 clear hr0 hc0
 have HB:=Aside0.mk (Below.refl w.heap.size w)
 have H:(sconceref06_Setup.l0 k l0 (l0.length:Int)) = some (r1,r2,r3,r4):=h
 clear h
 have HC2:=Aside0.mk H
 clear H
 go_enter Try.func37,Try.ntmps37
 go_upto_block 0 with (first | ((with_reducible refine gate_dst (N:=2) rfl ?_);refine box_event ?hg (N:=2) ?hd (cs:=#[.slice none 0 0,.int .u64 0,.slice none 0 0]) (t:=59) ?hr ?_;(case hd => rfl);(case hg => rfl);(case hr => first | (go_simp;done) | (go_simp;rfl));intro gb580 hg w3 hbox hb;have n0_:=Aside0.mk (below_step (vB HB.out) hb);have n1_:=Aside0.mk (hbox);have n2_:=Aside0.mk ((by rw [hg];exact (below_size (vB HB.out)):w.heap.size≤gb580));have n3_:=Aside0.mk ((by rw [hg];exact (below_size (vB HB.out)):w.heap.size≤gb580));clear HB;have HB:=n0_;have BK580:=n1_;have GW580:=n2_;have GE580:=n3_;clear n0_ n1_ n2_ n3_;clear hb hbox hg))
 (try simp only [Act.put,List.setIfInBounds_toArray,List.set_cons_zero,List.set_cons_succ])
 go_cut [4] (fun v4 wc => ∃ (kq:Nat) (x4_1:Int),v4 = .int .i64 x4_1∧Aside0 (sconceref06_Setup.j1 kq l0 x4_1 = some (r1,r2,r3,r4))∧Aside0 (kq≤k)∧Aside0 (wc.heap[gb580]? = some (.cells #[(.slice none 0 0),.int .u64 0,(.slice none 0 0)] 59 (0,0)))∧Aside0 (Below w.heap.size w wc))
 case first =>
  have H:=HC2.out
  clear HC2
  have H':=Aside0.mk H
  clear H
  go_wp2
  go_loopg [4] k (fun kq v4 w' => ∃ (x4_1:Int),v4 = .int .i64 x4_1∧Aside0 (sconceref06_Setup.l0 kq l0 x4_1 = some (r1,r2,r3,r4))∧Aside0 (kq≤k)∧Aside0 (w'.heap[gb580]? = some (.cells #[(.slice none 0 0),.int .u64 0,(.slice none 0 0)] 59 (0,0)))∧Aside0 (Below w.heap.size w w'))
  case atStart => exact ⟨((l0.length:Int)),(by first | rfl | (simp;done) | (simp [*];done)),H',⟨Nat.le_refl _⟩,⟨by (with_reducible repeat (first | refine blk_drewN ?_ _ | refine blk_drew ?_ | refine blk_alloc ?_ _));exact BK580.out⟩,⟨by repeat (first | (with_reducible first | exact HB.out | apply below_alloc | apply pw_below_drewN | apply below_drew1 | refine below_set ?_ GE580.out) | exact HB.out)⟩⟩
  case round =>
   clear H'
   try clear p2
   try clear c3
   obtain ⟨x4_1,rfl,HA,HK1,BK580,HB⟩:=hrel
   cases gk with
   | zero => exact absurd HA.out (by simp [sconceref06_Setup.l0])
   | succ k1 =>
    have H:=HA.out
    clear HA
    simp only [sconceref06_Setup.l0] at H
    by_cases c4:x4_1 > 0
    ·
     rw [if_pos c4] at H
     have c4b0:decide (0 < x4_1) = true:=decide_eq_true c4
     clear c4
     (first | rw [c4b0] | (simp only [i64_w,i32_w];rw [c4b0]) | skip)
     obtain ⟨ji5,hji5⟩:∃ j_:Int,(wrap64 (x4_1 - 1)) = j_:=⟨_,rfl⟩
     replace H:(if 0≤(ji5) then (if (ji5) < (l0.length:Int) then (if (rd l0 (ji5)) = 0 then (sconceref06_Setup.l0 k1 l0 ji5) else (sconceref06_Setup.j1 k1 l0 x4_1)) else (none)) else (none)) = some (r1,r2,r3,r4):=by first | (rw [hji5] at H;exact H) | (simp only [hji5] at H ⊢;exact H)
     have hji5w:(IntKind.i64.wrap (x4_1 - 1)) = ji5:=(i64_w _).trans hji5
     by_cases c6:0≤(ji5)
     ·
      rw [if_pos c6] at H
      have c6b0:decide (0≤(ji5)) = true:=decide_eq_true c6
      clear c6
      by_cases c7:(ji5) < (l0.length:Int)
      ·
       rw [if_pos c7] at H
       have c7b0:decide ((ji5) < (l0.length:Int)) = true:=decide_eq_true c7
       clear c7
       by_cases c8:(rd l0 (ji5)) = 0
       ·
        rw [if_pos c8] at H
        have c8b0:((rd l0 (ji5)) == 0) = true:=beq_iff_eq.mpr c8
        have c8b1:((rd l0 (ji5)) != 0) = false:=bne_eq_false_iff_eq.mpr c8
        clear c8
        have H':=Aside0.mk H
        clear H
        have p581:0≤((ji5):Int):=of_decide_eq_true vD
        have q581:(ji5) < (l0.length:Int):=of_decide_eq_true vD
        obtain ⟨ad581,e581,hx581_0⟩:=Kd.at_int HR0.out (ji5) p581 q581
        cases e581
        replace hx581_0:=(HB.out.cell (World.block_lt_of_cell? w _ hx581_0)).trans hx581_0
        replace p581:=eq_true p581
        replace q581:=eq_true q581
        go_wp2
        go_roundg k1
        case measure => have:=HK1.out;omega
        case rel => exact ⟨(ji5),(by first | rfl | (simp;done) | (simp only [← hji5] <;> (first | rfl | simp)) | (simp [*];done)),H',⟨by have:=HK1.out;omega⟩,⟨by (with_reducible repeat (first | refine blk_drewN ?_ _ | refine blk_drew ?_ | refine blk_alloc ?_ _));exact BK580.out⟩,⟨by repeat (first | (with_reducible first | exact HB.out | apply below_alloc | apply pw_below_drewN | apply below_drew1 | refine below_set ?_ GE580.out) | exact HB.out)⟩⟩
       ·
        rw [if_neg c8] at H
        have c8b0:((rd l0 (ji5)) == 0) = false:=beq_eq_false_iff_ne.mpr c8
        have c8b1:((rd l0 (ji5)) != 0) = true:=bne_iff_ne.mpr c8
        have H':=Aside0.mk H
        clear H
        have p581:0≤((ji5):Int):=of_decide_eq_true vD
        have q581:(ji5) < (l0.length:Int):=of_decide_eq_true vD
        obtain ⟨ad581,e581,hx581_0⟩:=Kd.at_int HR0.out (ji5) p581 q581
        cases e581
        replace hx581_0:=(HB.out.cell (World.block_lt_of_cell? w _ hx581_0)).trans hx581_0
        replace p581:=eq_true p581
        replace q581:=eq_true q581
        go_wp2
        go_meet
        case rel => exact ⟨_,(x4_1),(by first | rfl | (simp;done) | (simp [*];done)),H',⟨by have:=HK1.out;first | omega | exact Nat.le_refl _⟩,⟨by (with_reducible repeat (first | refine blk_drewN ?_ _ | refine blk_drew ?_ | refine blk_alloc ?_ _));exact BK580.out⟩,⟨by repeat (first | (with_reducible first | exact HB.out | apply below_alloc | apply pw_below_drewN | apply below_drew1 | refine below_set ?_ GE580.out) | exact HB.out)⟩⟩
      ·
       rw [if_neg c7] at H
       exact absurd H (by simp)
     ·
      rw [if_neg c6] at H
      exact absurd H (by simp)
    ·
     rw [if_neg c4] at H
     have c4b0:decide (0 < x4_1) = false:=decide_eq_false c4
     clear c4
     (first | rw [c4b0] | (simp only [i64_w,i32_w];rw [c4b0]) | skip)
     have H':=Aside0.mk H
     clear H
     go_wp2
     go_meet
     case rel => exact ⟨_,(x4_1),(by first | rfl | (simp;done) | (simp [*];done)),H',⟨by have:=HK1.out;first | omega | exact Nat.le_refl _⟩,⟨by (with_reducible repeat (first | refine blk_drewN ?_ _ | refine blk_drew ?_ | refine blk_alloc ?_ _));exact BK580.out⟩,⟨by repeat (first | (with_reducible first | exact HB.out | apply below_alloc | apply pw_below_drewN | apply below_drew1 | refine below_set ?_ GE580.out) | exact HB.out)⟩⟩
 case rest =>
  clear HC2
  try clear p2
  try clear c3
  try clear c4
  try clear c4b0
  try clear p5
  try clear q5
  try clear hx5
  try clear c6
  try clear c6b0
  try clear p6
  try clear c7
  try clear c7b0
  try clear c8
  try clear c8b0
  try clear c8b1
  try clear hx581_0
  try clear p2
  try clear p581
  try clear q581
  obtain ⟨kq,x4_1,rfl,HA,HJ1,BK580,HB⟩:=hcut
  cases kq with
  | zero => exact absurd HA.out (by simp [sconceref06_Setup.j1])
  | succ kj1 =>
   have H:=HA.out
   clear HA
   simp only [sconceref06_Setup.j1] at H
   by_cases c9:x4_1 > 130
   ·
    rw [if_pos c9] at H
    have c9b0:decide (130 < x4_1) = true:=decide_eq_true c9
    clear c9
    simp only [Option.some.injEq,Prod.mk.injEq] at H
    obtain ⟨rfl,rfl,rfl,rfl⟩:=H
    have hcz10_0:wc.cell? ⟨gb580,0,none⟩ = some (.slice none 0 0):=(blk_cell BK580.out 0).trans rfl
    have hcz10_1:wc.cell? ⟨gb580,1,none⟩ = some (.int .u64 0):=(blk_cell BK580.out 1).trans rfl
    have hcz10_2:wc.cell? ⟨gb580,2,none⟩ = some (.slice none 0 0):=(blk_cell BK580.out 2).trans rfl
    have hfz10_0:=blk_frozen BK580.out 0
    have hfz10_1:=blk_frozen BK580.out 1
    have hfz10_2:=blk_frozen BK580.out 2
    go_wp2
    refine bodyPost_ret (results_ct rfl _ _ gb580 59 #[.slice none 0 0,.int .u64 0,.slice none 0 0] (0,0) _ rfl (by (with_reducible repeat (first | refine blk_drewN ?_ _ | refine blk_drew ?_ | refine blk_alloc ?_ _));refine blk_put (cs:=#[.slice none 0 0,.int .u64 0,.slice none 0 0]) ?_ 2 _ rfl;(with_reducible repeat (first | refine blk_drewN ?_ _ | refine blk_drew ?_ | refine blk_alloc ?_ _));refine blk_put (cs:=#[.slice none 0 0,.int .u64 0,.slice none 0 0]) ?_ 1 _ rfl;(with_reducible repeat (first | refine blk_drewN ?_ _ | refine blk_drew ?_ | refine blk_alloc ?_ _));refine blk_put (cs:=#[.slice none 0 0,.int .u64 0,.slice none 0 0]) ?_ 0 _ rfl;(with_reducible repeat (first | refine blk_drewN ?_ _ | refine blk_drew ?_ | refine blk_alloc ?_ _));exact BK580.out) Try.underlying59 rfl (by kernel_rfl)) rfl ?_
    exact ⟨_,_,by first | rfl | (simp [errW_none,errW_some] <;> rfl) | (simp [*,errW_none,errW_some] <;> rfl),by first | exact Kd.R_nil _ _ _ _ _ | exact Kd.N_nil _ _ _ _ _ | exact Kd.V_nil _ _ _ _ _ | exact Kd.Q_nil _ _ _ _ _ | exact Kd.S_nil _ _ _ _ _,by first | exact Kd.R_nil _ _ _ _ _ | exact Kd.N_nil _ _ _ _ _ | exact Kd.V_nil _ _ _ _ _ | exact Kd.Q_nil _ _ _ _ _ | exact Kd.S_nil _ _ _ _ _,by repeat (first | (with_reducible first | exact HB.out | apply below_alloc | apply pw_below_drewN | apply below_drew1 | refine below_set ?_ GE580.out) | exact HB.out)⟩
   ·
    rw [if_neg c9] at H
    have c9b0:decide (130 < x4_1) = false:=decide_eq_false c9
    clear c9
    by_cases c11:0≤x4_1
    ·
     rw [if_pos c11] at H
     have c11b0:=eq_true c11
     have c11b1:decide (0≤x4_1) = true:=decide_eq_true c11
     clear c11
     by_cases c12:x4_1≤(l0.length:Int)
     ·
      rw [if_pos c12] at H
      have c12b0:=eq_true c12
      have c12b1:decide (x4_1≤(l0.length:Int)) = true:=decide_eq_true c12
      clear c12
      replace H:=Option.bind_eq_some_iff.mp H
      obtain ⟨t583,A130,H⟩:=H
      replace H:((sconceref03_Small.f kj1 2).bind fun t586 => ((sconceref03_Cmp.f kj1 t583 t586).bind fun t589 => (if t589 < 0 then (some (([]:List Int),0,([]:List Int),1)) else (if 0 < (t583.length:Int) then (if (Int.tmod (rd t583 0) 2) = 0 then (some (([]:List Int),0,([]:List Int),60)) else ((sconceref03_Least.f kj1 t583).bind fun t591 => (if 0 < (t591.length:Int) then ((sconceref01_Inverse.f kj1 (rd t591 0)).bind fun t596 => ((sconceref03_Small.f kj1 1).bind fun t597 => ((sconceref03_Shl.f kj1 t597 (wrap64 (128 * x4_1))).bind fun t600 => ((sconceref03_Mod.f t600 t583).bind fun t603 => ((sconceref03_Nat.f kj1 t603 x4_1).bind fun t606 => (some (t591,IntKind.u64.wrap (-t596),t606,0))))))) else (none)))) else (none))))) = some (r1,r2,r3,r4):=H
      have A13:=Aside0.mk A130
      clear A130
      replace H:=Option.bind_eq_some_iff.mp H
      obtain ⟨t586,A140,H⟩:=H
      replace H:((sconceref03_Cmp.f kj1 t583 t586).bind fun t589 => (if t589 < 0 then (some (([]:List Int),0,([]:List Int),1)) else (if 0 < (t583.length:Int) then (if (Int.tmod (rd t583 0) 2) = 0 then (some (([]:List Int),0,([]:List Int),60)) else ((sconceref03_Least.f kj1 t583).bind fun t591 => (if 0 < (t591.length:Int) then ((sconceref01_Inverse.f kj1 (rd t591 0)).bind fun t596 => ((sconceref03_Small.f kj1 1).bind fun t597 => ((sconceref03_Shl.f kj1 t597 (wrap64 (128 * x4_1))).bind fun t600 => ((sconceref03_Mod.f t600 t583).bind fun t603 => ((sconceref03_Nat.f kj1 t603 x4_1).bind fun t606 => (some (t591,IntKind.u64.wrap (-t596),t606,0))))))) else (none)))) else (none)))) = some (r1,r2,r3,r4):=H
      have A14:=Aside0.mk A140
      clear A140
      replace H:=Option.bind_eq_some_iff.mp H
      obtain ⟨t589,A150,H⟩:=H
      replace H:(if t589 < 0 then (some (([]:List Int),0,([]:List Int),1)) else (if 0 < (t583.length:Int) then (if (Int.tmod (rd t583 0) 2) = 0 then (some (([]:List Int),0,([]:List Int),60)) else ((sconceref03_Least.f kj1 t583).bind fun t591 => (if 0 < (t591.length:Int) then ((sconceref01_Inverse.f kj1 (rd t591 0)).bind fun t596 => ((sconceref03_Small.f kj1 1).bind fun t597 => ((sconceref03_Shl.f kj1 t597 (wrap64 (128 * x4_1))).bind fun t600 => ((sconceref03_Mod.f t600 t583).bind fun t603 => ((sconceref03_Nat.f kj1 t603 x4_1).bind fun t606 => (some (t591,IntKind.u64.wrap (-t596),t606,0))))))) else (none)))) else (none))) = some (r1,r2,r3,r4):=H
      have A15:=Aside0.mk A150
      clear A150
      by_cases c16:t589 < 0
      ·
       rw [if_pos c16] at H
       have c16b0:decide (t589 < 0) = true:=decide_eq_true c16
       clear c16
       simp only [Option.some.injEq,Prod.mk.injEq] at H
       obtain ⟨rfl,rfl,rfl,rfl⟩:=H
       obtain ⟨i017,hi017,_,hsz17,_⟩:=info_parts info37
       obtain ⟨hcut17,hA17,hC17⟩:=print_take_of (P:=Try.prog) (Value.int .u64) 0 23 37 .i64 Try.underlying23 hi017 hsz17 A0 c0 l0 x4_1 (of_decide_eq_true vD) (of_decide_eq_true vD) HC0.out
       have HR582:=Aside0.mk (Kd.C_of_reads (h1:=fun _ => rfl) (hA17 _ (Kd.reads_of_C HR0.out)))
       have HC582:=Aside0.mk hC17
       clear hA17 hC17 hi017 hsz17
       go_wp2_with (first | ((with_reducible refine gate_callee (f:=21) rfl ?_);refine goesL_ (some 27) rfl rfl Try.func21 (by kernel_rfl) rfl #[.slice A0 (l0.take (x4_1:Int).toNat).length c0] rfl (by (try simp only [List.map_toArray,List.map_cons,List.map_nil]);first | done | (rw [show (l0.take (x4_1:Int).toNat).length = x4_1.toNat from (by rw [List.length_take];have h_:(x4_1:Int)≤(l0.length:Int):=of_decide_eq_true vD;omega)] <;> rfl) | rfl | (simp only [List.length_drop,List.length_take];rfl)) ?_;(with_reducible refine (sconceref03_Of.calls kj1 _ _ (l0.take (x4_1:Int).toNat) t583 _ ?side1 ?side2 A13.out).mono ?_);(case side1 => repeat (first | exact (Kd.C_below HR582.out HB.out) | (with_reducible refine Kd.C_alloc ?_ _) | (with_reducible refine Kd.C_drewN ?_ _) | (with_reducible refine Kd.C_drew ?_)));(case side2 => exact HC582.out);rintro e w18 ⟨v584,rfl,ho0,hb⟩;refine ⟨_,rfl,?_⟩;have n0_:=Aside0.mk (Kd.V_lower (Kd.V_mono (ok':=fun k_ => k_≠gb580) ho0 (fun k_ hk_ => (Kd.freshB (g:=gb580) (o:=.cells #[.slice none 0 0,.int .u64 0,.slice none 0 0] 59 (0,0)) (vK BK580.out) k_ hk_))) (below_size (vBg HB.out GE580.out)));have n1_:=Aside0.mk (blk_below (g:=gb580) (o:=.cells #[.slice none 0 0,.int .u64 0,.slice none 0 0] 59 (0,0)) (vK BK580.out) hb);have n2_:=Aside0.mk (below_step (vBg HB.out GE580.out) hb);clear BK580;clear HB;have HO585:=n0_;have BK580:=n1_;have HB:=n2_;clear n0_ n1_ n2_;(try clear hb);(try clear hb2);(try clear hk);(try clear hi);(try clear ho0)) | ((with_reducible refine gate_callee (f:=55) rfl ?_);refine goesL_ (some 29) rfl rfl Try.func55 (by kernel_rfl) rfl #[.int .u64 2] rfl vA ?_;(with_reducible refine (sconceref03_Small.calls kj1 2 t586 _ A14.out).mono ?_);rintro e w19 ⟨v587,rfl,ho0,hb⟩;refine ⟨_,rfl,?_⟩;have n0_:=Aside0.mk (Kd.V_below (vV HO585.out) hb);have n1_:=Aside0.mk (Kd.V_lower (Kd.V_mono (ok':=fun k_ => k_≠gb580) ho0 (fun k_ hk_ => (Kd.freshB (g:=gb580) (o:=.cells #[.slice none 0 0,.int .u64 0,.slice none 0 0] 59 (0,0)) (vK BK580.out) k_ hk_))) (below_size (vBg HB.out GE580.out)));have n2_:=Aside0.mk (blk_below (g:=gb580) (o:=.cells #[.slice none 0 0,.int .u64 0,.slice none 0 0] 59 (0,0)) (vK BK580.out) hb);have n3_:=Aside0.mk (below_step (vBg HB.out GE580.out) hb);clear HO585;clear BK580;clear HB;have HO585:=n0_;have HO588:=n1_;have BK580:=n2_;have HB:=n3_;clear n0_ n1_ n2_ n3_;(try clear hb);(try clear hb2);(try clear hk);(try clear hi);(try clear ho0);obtain ⟨Ao20,co20,eo20⟩:=Kd.V_slice HO585.out;subst eo20;obtain ⟨Ao21,co21,eo21⟩:=Kd.V_slice HO588.out;subst eo21) | ((with_reducible refine gate_callee (f:=24) rfl ?_);refine goesL_ (some 30) rfl rfl Try.func24 (by kernel_rfl) rfl #[.slice Ao20 t583.length co20,.slice Ao21 t586.length co21] rfl vA ?_;(with_reducible refine (sconceref03_Cmp.calls kj1 _ _ t583 _ _ t586 t589 _ ?side1 ?side2 ?side3 ?side4 A15.out).mono ?_);(case side1 => repeat (first | exact (Kd.V_reads' HO585.out).2.2 | (with_reducible refine Kd.C_alloc ?_ _) | (with_reducible refine Kd.C_drewN ?_ _) | (with_reducible refine Kd.C_drew ?_)));(case side2 => exact (Kd.V_reads' HO585.out).2.1);(case side3 => repeat (first | exact (Kd.V_reads' HO588.out).2.2 | (with_reducible refine Kd.C_alloc ?_ _) | (with_reducible refine Kd.C_drewN ?_ _) | (with_reducible refine Kd.C_drew ?_)));(case side4 => exact (Kd.V_reads' HO588.out).2.1);rintro e w' ⟨rfl,⟨nd,rfl⟩⟩;refine ⟨_,rfl,?_⟩;(try (rw [drewN_self w19];generalize hq_:World.drewN w19 _ = w19;have n0_:Aside0 (Kd.V (Kd.int .u32) 78 w19 w.heap.size (fun k_ => k_≠gb580) (.slice Ao20 t583.length co20) t583):=⟨by rw [← hq_];exact (vV HO585.out)⟩;have n1_:Aside0 (Kd.V (Kd.int .u32) 78 w19 w.heap.size (fun k_ => k_≠gb580) (.slice Ao21 t586.length co21) t586):=⟨by rw [← hq_];exact (vV HO588.out)⟩;have n2_:Aside0 (w19.heap[gb580]? = some (.cells #[.slice none 0 0,.int .u64 0,.slice none 0 0] 59 (0,0))):=⟨by rw [← hq_];exact (vK BK580.out)⟩;have n3_:Aside0 (Below w.heap.size w w19):=⟨by rw [← hq_];exact (vBg HB.out GE580.out)⟩;clear HO585 HO588 BK580 HB hq_;have HO585:=n0_;have HO588:=n1_;have BK580:=n2_;have HB:=n3_;clear n0_ n1_ n2_ n3_));have hcz22_0:w19.cell? ⟨gb580,0,none⟩ = some (.slice none 0 0):=(blk_cell BK580.out 0).trans rfl;have hcz22_1:w19.cell? ⟨gb580,1,none⟩ = some (.int .u64 0):=(blk_cell BK580.out 1).trans rfl;have hcz22_2:w19.cell? ⟨gb580,2,none⟩ = some (.slice none 0 0):=(blk_cell BK580.out 2).trans rfl;have hfz22_0:=blk_frozen BK580.out 0;have hfz22_1:=blk_frozen BK580.out 1;have hfz22_2:=blk_frozen BK580.out 2))
       refine bodyPost_ret (results_ct rfl _ _ gb580 59 #[.slice none 0 0,.int .u64 0,.slice none 0 0] (0,0) _ rfl (by (with_reducible repeat (first | refine blk_drewN ?_ _ | refine blk_drew ?_ | refine blk_alloc ?_ _));refine blk_put (cs:=#[.slice none 0 0,.int .u64 0,.slice none 0 0]) ?_ 2 _ rfl;(with_reducible repeat (first | refine blk_drewN ?_ _ | refine blk_drew ?_ | refine blk_alloc ?_ _));refine blk_put (cs:=#[.slice none 0 0,.int .u64 0,.slice none 0 0]) ?_ 1 _ rfl;(with_reducible repeat (first | refine blk_drewN ?_ _ | refine blk_drew ?_ | refine blk_alloc ?_ _));refine blk_put (cs:=#[.slice none 0 0,.int .u64 0,.slice none 0 0]) ?_ 0 _ rfl;(with_reducible repeat (first | refine blk_drewN ?_ _ | refine blk_drew ?_ | refine blk_alloc ?_ _));exact BK580.out) Try.underlying59 rfl (by kernel_rfl)) rfl ?_
       exact ⟨_,_,by first | rfl | (simp [errW_none,errW_some] <;> rfl) | (simp [*,errW_none,errW_some] <;> rfl),by first | exact Kd.R_nil _ _ _ _ _ | exact Kd.N_nil _ _ _ _ _ | exact Kd.V_nil _ _ _ _ _ | exact Kd.Q_nil _ _ _ _ _ | exact Kd.S_nil _ _ _ _ _,by first | exact Kd.R_nil _ _ _ _ _ | exact Kd.N_nil _ _ _ _ _ | exact Kd.V_nil _ _ _ _ _ | exact Kd.Q_nil _ _ _ _ _ | exact Kd.S_nil _ _ _ _ _,by repeat (first | (with_reducible first | exact HB.out | apply below_alloc | apply pw_below_drewN | apply below_drew1 | refine below_set ?_ GE580.out) | exact HB.out)⟩
      ·
       rw [if_neg c16] at H
       have c16b0:decide (t589 < 0) = false:=decide_eq_false c16
       clear c16
       by_cases c23:0 < (t583.length:Int)
       ·
        rw [if_pos c23] at H
        have c23b0:decide (0 < (t583.length:Int)) = true:=decide_eq_true c23
        have c23b1:decide (0 < t583.length) = true:=decide_eq_true (by omega)
        clear c23
        by_cases c24:(Int.tmod (rd t583 0) 2) = 0
        ·
         rw [if_pos c24] at H
         have c24b0:((Int.tmod (rd t583 0) 2) == 0) = true:=beq_iff_eq.mpr c24
         have c24b1:((Int.tmod (rd t583 0) 2) != 0) = false:=bne_eq_false_iff_eq.mpr c24
         clear c24
         simp only [Option.some.injEq,Prod.mk.injEq] at H
         obtain ⟨rfl,rfl,rfl,rfl⟩:=H
         obtain ⟨i025,hi025,_,hsz25,_⟩:=info_parts info37
         obtain ⟨hcut25,hA25,hC25⟩:=print_take_of (P:=Try.prog) (Value.int .u64) 0 23 37 .i64 Try.underlying23 hi025 hsz25 A0 c0 l0 x4_1 (of_decide_eq_true vD) (of_decide_eq_true vD) HC0.out
         have HR582:=Aside0.mk (Kd.C_of_reads (h1:=fun _ => rfl) (hA25 _ (Kd.reads_of_C HR0.out)))
         have HC582:=Aside0.mk hC25
         clear hA25 hC25 hi025 hsz25
         go_wp2_with (first | ((with_reducible refine gate_callee (f:=21) rfl ?_);refine goesL_ (some 27) rfl rfl Try.func21 (by kernel_rfl) rfl #[.slice A0 (l0.take (x4_1:Int).toNat).length c0] rfl (by (try simp only [List.map_toArray,List.map_cons,List.map_nil]);first | done | (rw [show (l0.take (x4_1:Int).toNat).length = x4_1.toNat from (by rw [List.length_take];have h_:(x4_1:Int)≤(l0.length:Int):=of_decide_eq_true vD;omega)] <;> rfl) | rfl | (simp only [List.length_drop,List.length_take];rfl)) ?_;(with_reducible refine (sconceref03_Of.calls kj1 _ _ (l0.take (x4_1:Int).toNat) t583 _ ?side1 ?side2 A13.out).mono ?_);(case side1 => repeat (first | exact (Kd.C_below HR582.out HB.out) | (with_reducible refine Kd.C_alloc ?_ _) | (with_reducible refine Kd.C_drewN ?_ _) | (with_reducible refine Kd.C_drew ?_)));(case side2 => exact HC582.out);rintro e w26 ⟨v584,rfl,ho0,hb⟩;refine ⟨_,rfl,?_⟩;have n0_:=Aside0.mk (Kd.V_lower (Kd.V_mono (ok':=fun k_ => k_≠gb580) ho0 (fun k_ hk_ => (Kd.freshB (g:=gb580) (o:=.cells #[.slice none 0 0,.int .u64 0,.slice none 0 0] 59 (0,0)) (vK BK580.out) k_ hk_))) (below_size (vBg HB.out GE580.out)));have n1_:=Aside0.mk (blk_below (g:=gb580) (o:=.cells #[.slice none 0 0,.int .u64 0,.slice none 0 0] 59 (0,0)) (vK BK580.out) hb);have n2_:=Aside0.mk (below_step (vBg HB.out GE580.out) hb);clear BK580;clear HB;have HO585:=n0_;have BK580:=n1_;have HB:=n2_;clear n0_ n1_ n2_;(try clear hb);(try clear hb2);(try clear hk);(try clear hi);(try clear ho0)) | ((with_reducible refine gate_callee (f:=55) rfl ?_);refine goesL_ (some 29) rfl rfl Try.func55 (by kernel_rfl) rfl #[.int .u64 2] rfl vA ?_;(with_reducible refine (sconceref03_Small.calls kj1 2 t586 _ A14.out).mono ?_);rintro e w27 ⟨v587,rfl,ho0,hb⟩;refine ⟨_,rfl,?_⟩;have n0_:=Aside0.mk (Kd.V_below (vV HO585.out) hb);have n1_:=Aside0.mk (Kd.V_lower (Kd.V_mono (ok':=fun k_ => k_≠gb580) ho0 (fun k_ hk_ => (Kd.freshB (g:=gb580) (o:=.cells #[.slice none 0 0,.int .u64 0,.slice none 0 0] 59 (0,0)) (vK BK580.out) k_ hk_))) (below_size (vBg HB.out GE580.out)));have n2_:=Aside0.mk (blk_below (g:=gb580) (o:=.cells #[.slice none 0 0,.int .u64 0,.slice none 0 0] 59 (0,0)) (vK BK580.out) hb);have n3_:=Aside0.mk (below_step (vBg HB.out GE580.out) hb);clear HO585;clear BK580;clear HB;have HO585:=n0_;have HO588:=n1_;have BK580:=n2_;have HB:=n3_;clear n0_ n1_ n2_ n3_;(try clear hb);(try clear hb2);(try clear hk);(try clear hi);(try clear ho0);obtain ⟨Ao28,co28,eo28⟩:=Kd.V_slice HO585.out;subst eo28;obtain ⟨Ao29,co29,eo29⟩:=Kd.V_slice HO588.out;subst eo29) | ((with_reducible refine gate_callee (f:=24) rfl ?_);refine goesL_ (some 30) rfl rfl Try.func24 (by kernel_rfl) rfl #[.slice Ao28 t583.length co28,.slice Ao29 t586.length co29] rfl vA ?_;(with_reducible refine (sconceref03_Cmp.calls kj1 _ _ t583 _ _ t586 t589 _ ?side1 ?side2 ?side3 ?side4 A15.out).mono ?_);(case side1 => repeat (first | exact (Kd.V_reads' HO585.out).2.2 | (with_reducible refine Kd.C_alloc ?_ _) | (with_reducible refine Kd.C_drewN ?_ _) | (with_reducible refine Kd.C_drew ?_)));(case side2 => exact (Kd.V_reads' HO585.out).2.1);(case side3 => repeat (first | exact (Kd.V_reads' HO588.out).2.2 | (with_reducible refine Kd.C_alloc ?_ _) | (with_reducible refine Kd.C_drewN ?_ _) | (with_reducible refine Kd.C_drew ?_)));(case side4 => exact (Kd.V_reads' HO588.out).2.1);rintro e w' ⟨rfl,⟨nd,rfl⟩⟩;refine ⟨_,rfl,?_⟩;(try (rw [drewN_self w27];generalize hq_:World.drewN w27 _ = w27;have n0_:Aside0 (Kd.V (Kd.int .u32) 78 w27 w.heap.size (fun k_ => k_≠gb580) (.slice Ao28 t583.length co28) t583):=⟨by rw [← hq_];exact (vV HO585.out)⟩;have n1_:Aside0 (Kd.V (Kd.int .u32) 78 w27 w.heap.size (fun k_ => k_≠gb580) (.slice Ao29 t586.length co29) t586):=⟨by rw [← hq_];exact (vV HO588.out)⟩;have n2_:Aside0 (w27.heap[gb580]? = some (.cells #[.slice none 0 0,.int .u64 0,.slice none 0 0] 59 (0,0))):=⟨by rw [← hq_];exact (vK BK580.out)⟩;have n3_:Aside0 (Below w.heap.size w w27):=⟨by rw [← hq_];exact (vBg HB.out GE580.out)⟩;clear HO585 HO588 BK580 HB hq_;have HO585:=n0_;have HO588:=n1_;have BK580:=n2_;have HB:=n3_;clear n0_ n1_ n2_ n3_));have p590:0≤(0:Int):=(by omega);have q590:0 < (t583.length:Int):=of_decide_eq_true vD;obtain ⟨ad590,e590,hx590_0⟩:=Kd.at_int (Kd.V_reads' HO585.out).2.2 0 p590 q590;cases e590;have qi590:(0 < t583.length) = True:=eq_true (by omega);(try rw [show ((0:Int)).toNat = 0 from rfl] at hx590_0);(try rw [Addr.add_zero'] at hx590_0);replace p590:=eq_true p590;replace q590:=eq_true q590;have hcz30_0:w27.cell? ⟨gb580,0,none⟩ = some (.slice none 0 0):=(blk_cell BK580.out 0).trans rfl;have hcz30_1:w27.cell? ⟨gb580,1,none⟩ = some (.int .u64 0):=(blk_cell BK580.out 1).trans rfl;have hcz30_2:w27.cell? ⟨gb580,2,none⟩ = some (.slice none 0 0):=(blk_cell BK580.out 2).trans rfl;have hfz30_0:=blk_frozen BK580.out 0;have hfz30_1:=blk_frozen BK580.out 1;have hfz30_2:=blk_frozen BK580.out 2))
         refine bodyPost_ret (results_ct rfl _ _ gb580 59 #[.slice none 0 0,.int .u64 0,.slice none 0 0] (0,0) _ rfl (by (with_reducible repeat (first | refine blk_drewN ?_ _ | refine blk_drew ?_ | refine blk_alloc ?_ _));refine blk_put (cs:=#[.slice none 0 0,.int .u64 0,.slice none 0 0]) ?_ 2 _ rfl;(with_reducible repeat (first | refine blk_drewN ?_ _ | refine blk_drew ?_ | refine blk_alloc ?_ _));refine blk_put (cs:=#[.slice none 0 0,.int .u64 0,.slice none 0 0]) ?_ 1 _ rfl;(with_reducible repeat (first | refine blk_drewN ?_ _ | refine blk_drew ?_ | refine blk_alloc ?_ _));refine blk_put (cs:=#[.slice none 0 0,.int .u64 0,.slice none 0 0]) ?_ 0 _ rfl;(with_reducible repeat (first | refine blk_drewN ?_ _ | refine blk_drew ?_ | refine blk_alloc ?_ _));exact BK580.out) Try.underlying59 rfl (by kernel_rfl)) rfl ?_
         exact ⟨_,_,by first | rfl | (simp [errW_none,errW_some] <;> rfl) | (simp [*,errW_none,errW_some] <;> rfl),by first | exact Kd.R_nil _ _ _ _ _ | exact Kd.N_nil _ _ _ _ _ | exact Kd.V_nil _ _ _ _ _ | exact Kd.Q_nil _ _ _ _ _ | exact Kd.S_nil _ _ _ _ _,by first | exact Kd.R_nil _ _ _ _ _ | exact Kd.N_nil _ _ _ _ _ | exact Kd.V_nil _ _ _ _ _ | exact Kd.Q_nil _ _ _ _ _ | exact Kd.S_nil _ _ _ _ _,by repeat (first | (with_reducible first | exact HB.out | apply below_alloc | apply pw_below_drewN | apply below_drew1 | refine below_set ?_ GE580.out) | exact HB.out)⟩
        ·
         rw [if_neg c24] at H
         have c24b0:((Int.tmod (rd t583 0) 2) == 0) = false:=beq_eq_false_iff_ne.mpr c24
         have c24b1:((Int.tmod (rd t583 0) 2) != 0) = true:=bne_iff_ne.mpr c24
         replace H:=Option.bind_eq_some_iff.mp H
         obtain ⟨t591,A310,H⟩:=H
         replace H:(if 0 < (t591.length:Int) then ((sconceref01_Inverse.f kj1 (rd t591 0)).bind fun t596 => ((sconceref03_Small.f kj1 1).bind fun t597 => ((sconceref03_Shl.f kj1 t597 (wrap64 (128 * x4_1))).bind fun t600 => ((sconceref03_Mod.f t600 t583).bind fun t603 => ((sconceref03_Nat.f kj1 t603 x4_1).bind fun t606 => (some (t591,IntKind.u64.wrap (-t596),t606,0))))))) else (none)) = some (r1,r2,r3,r4):=H
         have A31:=Aside0.mk A310
         clear A310
         by_cases c32:0 < (t591.length:Int)
         ·
          rw [if_pos c32] at H
          have c32b0:decide (0 < (t591.length:Int)) = true:=decide_eq_true c32
          have c32b1:decide (0 < t591.length) = true:=decide_eq_true (by omega)
          clear c32
          replace H:=Option.bind_eq_some_iff.mp H
          obtain ⟨t596,A330,H⟩:=H
          replace H:((sconceref03_Small.f kj1 1).bind fun t597 => ((sconceref03_Shl.f kj1 t597 (wrap64 (128 * x4_1))).bind fun t600 => ((sconceref03_Mod.f t600 t583).bind fun t603 => ((sconceref03_Nat.f kj1 t603 x4_1).bind fun t606 => (some (t591,IntKind.u64.wrap (-t596),t606,0)))))) = some (r1,r2,r3,r4):=H
          have A33:=Aside0.mk A330
          clear A330
          replace H:=Option.bind_eq_some_iff.mp H
          obtain ⟨t597,A340,H⟩:=H
          replace H:((sconceref03_Shl.f kj1 t597 (wrap64 (128 * x4_1))).bind fun t600 => ((sconceref03_Mod.f t600 t583).bind fun t603 => ((sconceref03_Nat.f kj1 t603 x4_1).bind fun t606 => (some (t591,IntKind.u64.wrap (-t596),t606,0))))) = some (r1,r2,r3,r4):=H
          have A34:=Aside0.mk A340
          clear A340
          replace H:=Option.bind_eq_some_iff.mp H
          obtain ⟨t600,A350,H⟩:=H
          replace H:((sconceref03_Mod.f t600 t583).bind fun t603 => ((sconceref03_Nat.f kj1 t603 x4_1).bind fun t606 => (some (t591,IntKind.u64.wrap (-t596),t606,0)))) = some (r1,r2,r3,r4):=H
          have A35:=Aside0.mk A350
          clear A350
          replace H:=Option.bind_eq_some_iff.mp H
          obtain ⟨t603,A360,H⟩:=H
          replace H:((sconceref03_Nat.f kj1 t603 x4_1).bind fun t606 => (some (t591,IntKind.u64.wrap (-t596),t606,0))) = some (r1,r2,r3,r4):=H
          have A36:=Aside0.mk A360
          clear A360
          replace H:=Option.bind_eq_some_iff.mp H
          obtain ⟨t606,A370,H⟩:=H
          replace H:(some (t591,IntKind.u64.wrap (-t596),t606,0)) = some (r1,r2,r3,r4):=H
          have A37:=Aside0.mk A370
          clear A370
          simp only [Option.some.injEq,Prod.mk.injEq] at H
          obtain ⟨rfl,rfl,rfl,rfl⟩:=H
          obtain ⟨i038,hi038,_,hsz38,_⟩:=info_parts info37
          obtain ⟨hcut38,hA38,hC38⟩:=print_take_of (P:=Try.prog) (Value.int .u64) 0 23 37 .i64 Try.underlying23 hi038 hsz38 A0 c0 l0 x4_1 (of_decide_eq_true vD) (of_decide_eq_true vD) HC0.out
          have HR582:=Aside0.mk (Kd.C_of_reads (h1:=fun _ => rfl) (hA38 _ (Kd.reads_of_C HR0.out)))
          have HC582:=Aside0.mk hC38
          clear hA38 hC38 hi038 hsz38
          go_wp2_with (first | ((with_reducible refine gate_callee (f:=21) rfl ?_);refine goesL_ (some 27) rfl rfl Try.func21 (by kernel_rfl) rfl #[.slice A0 (l0.take (x4_1:Int).toNat).length c0] rfl (by (try simp only [List.map_toArray,List.map_cons,List.map_nil]);first | done | (rw [show (l0.take (x4_1:Int).toNat).length = x4_1.toNat from (by rw [List.length_take];have h_:(x4_1:Int)≤(l0.length:Int):=of_decide_eq_true vD;omega)] <;> rfl) | rfl | (simp only [List.length_drop,List.length_take];rfl)) ?_;(with_reducible refine (sconceref03_Of.calls kj1 _ _ (l0.take (x4_1:Int).toNat) t583 _ ?side1 ?side2 A13.out).mono ?_);(case side1 => repeat (first | exact (Kd.C_below HR582.out HB.out) | (with_reducible refine Kd.C_alloc ?_ _) | (with_reducible refine Kd.C_drewN ?_ _) | (with_reducible refine Kd.C_drew ?_)));(case side2 => exact HC582.out);rintro e w39 ⟨v584,rfl,ho0,hb⟩;refine ⟨_,rfl,?_⟩;have n0_:=Aside0.mk (Kd.V_lower (Kd.V_mono (ok':=fun k_ => k_≠gb580) ho0 (fun k_ hk_ => (Kd.freshB (g:=gb580) (o:=.cells #[.slice none 0 0,.int .u64 0,.slice none 0 0] 59 (0,0)) (vK BK580.out) k_ hk_))) (below_size (vBg HB.out GE580.out)));have n1_:=Aside0.mk (blk_below (g:=gb580) (o:=.cells #[.slice none 0 0,.int .u64 0,.slice none 0 0] 59 (0,0)) (vK BK580.out) hb);have n2_:=Aside0.mk (below_step (vBg HB.out GE580.out) hb);clear BK580;clear HB;have HO585:=n0_;have BK580:=n1_;have HB:=n2_;clear n0_ n1_ n2_;(try clear hb);(try clear hb2);(try clear hk);(try clear hi);(try clear ho0)) | ((with_reducible refine gate_callee (f:=55) rfl ?_);refine goesL_ (some 29) rfl rfl Try.func55 (by kernel_rfl) rfl #[.int .u64 2] rfl vA ?_;(with_reducible refine (sconceref03_Small.calls kj1 2 t586 _ A14.out).mono ?_);rintro e w40 ⟨v587,rfl,ho0,hb⟩;refine ⟨_,rfl,?_⟩;have n0_:=Aside0.mk (Kd.V_below (vV HO585.out) hb);have n1_:=Aside0.mk (Kd.V_lower (Kd.V_mono (ok':=fun k_ => k_≠gb580) ho0 (fun k_ hk_ => (Kd.freshB (g:=gb580) (o:=.cells #[.slice none 0 0,.int .u64 0,.slice none 0 0] 59 (0,0)) (vK BK580.out) k_ hk_))) (below_size (vBg HB.out GE580.out)));have n2_:=Aside0.mk (blk_below (g:=gb580) (o:=.cells #[.slice none 0 0,.int .u64 0,.slice none 0 0] 59 (0,0)) (vK BK580.out) hb);have n3_:=Aside0.mk (below_step (vBg HB.out GE580.out) hb);clear HO585;clear BK580;clear HB;have HO585:=n0_;have HO588:=n1_;have BK580:=n2_;have HB:=n3_;clear n0_ n1_ n2_ n3_;(try clear hb);(try clear hb2);(try clear hk);(try clear hi);(try clear ho0);obtain ⟨Ao41,co41,eo41⟩:=Kd.V_slice HO585.out;subst eo41;obtain ⟨Ao42,co42,eo42⟩:=Kd.V_slice HO588.out;subst eo42) | ((with_reducible refine gate_callee (f:=24) rfl ?_);refine goesL_ (some 30) rfl rfl Try.func24 (by kernel_rfl) rfl #[.slice Ao41 t583.length co41,.slice Ao42 t586.length co42] rfl vA ?_;(with_reducible refine (sconceref03_Cmp.calls kj1 _ _ t583 _ _ t586 t589 _ ?side1 ?side2 ?side3 ?side4 A15.out).mono ?_);(case side1 => repeat (first | exact (Kd.V_reads' HO585.out).2.2 | (with_reducible refine Kd.C_alloc ?_ _) | (with_reducible refine Kd.C_drewN ?_ _) | (with_reducible refine Kd.C_drew ?_)));(case side2 => exact (Kd.V_reads' HO585.out).2.1);(case side3 => repeat (first | exact (Kd.V_reads' HO588.out).2.2 | (with_reducible refine Kd.C_alloc ?_ _) | (with_reducible refine Kd.C_drewN ?_ _) | (with_reducible refine Kd.C_drew ?_)));(case side4 => exact (Kd.V_reads' HO588.out).2.1);rintro e w' ⟨rfl,⟨nd,rfl⟩⟩;refine ⟨_,rfl,?_⟩;(try (rw [drewN_self w40];generalize hq_:World.drewN w40 _ = w40;have n0_:Aside0 (Kd.V (Kd.int .u32) 78 w40 w.heap.size (fun k_ => k_≠gb580) (.slice Ao41 t583.length co41) t583):=⟨by rw [← hq_];exact (vV HO585.out)⟩;have n1_:Aside0 (Kd.V (Kd.int .u32) 78 w40 w.heap.size (fun k_ => k_≠gb580) (.slice Ao42 t586.length co42) t586):=⟨by rw [← hq_];exact (vV HO588.out)⟩;have n2_:Aside0 (w40.heap[gb580]? = some (.cells #[.slice none 0 0,.int .u64 0,.slice none 0 0] 59 (0,0))):=⟨by rw [← hq_];exact (vK BK580.out)⟩;have n3_:Aside0 (Below w.heap.size w w40):=⟨by rw [← hq_];exact (vBg HB.out GE580.out)⟩;clear HO585 HO588 BK580 HB hq_;have HO585:=n0_;have HO588:=n1_;have BK580:=n2_;have HB:=n3_;clear n0_ n1_ n2_ n3_));have p590:0≤(0:Int):=(by omega);have q590:0 < (t583.length:Int):=of_decide_eq_true vD;obtain ⟨ad590,e590,hx590_0⟩:=Kd.at_int (Kd.V_reads' HO585.out).2.2 0 p590 q590;cases e590;have qi590:(0 < t583.length) = True:=eq_true (by omega);(try rw [show ((0:Int)).toNat = 0 from rfl] at hx590_0);(try rw [Addr.add_zero'] at hx590_0);replace p590:=eq_true p590;replace q590:=eq_true q590) | ((with_reducible refine gate_callee (f:=23) rfl ?_);refine goesL_ (some 40) rfl rfl Try.func23 (by kernel_rfl) rfl #[.slice (some ad590) t583.length co41] rfl vA ?_;(with_reducible refine (sconceref03_Least.calls kj1 _ _ t583 t591 _ ?side1 ?side2 A31.out).mono ?_);(case side1 => repeat (first | exact (Kd.V_reads' HO585.out).2.2 | (with_reducible refine Kd.C_alloc ?_ _) | (with_reducible refine Kd.C_drewN ?_ _) | (with_reducible refine Kd.C_drew ?_)));(case side2 => exact (Kd.V_reads' HO585.out).2.1);rintro e w43 ⟨v592,rfl,ho0,hb⟩;refine ⟨_,rfl,?_⟩;have n0_:=Aside0.mk (Kd.V_elder' (vV HO585.out) (Kd.R_base ho0) hb);have n1_:=Aside0.mk (Kd.V_elder' (vV HO588.out) (Kd.R_base ho0) hb);have n2_:=Aside0.mk (Kd.R_lower ho0 (below_size (vBg HB.out GE580.out)));have n3_:=Aside0.mk (blk_below (g:=gb580) (o:=.cells #[.slice none 0 0,.int .u64 0,.slice none 0 0] 59 (0,0)) (vK BK580.out) hb);have n4_:=Aside0.mk (below_step (vBg HB.out GE580.out) hb);clear HO585;clear HO588;clear BK580;clear HB;have HO585:=n0_;have HO588:=n1_;have HO593:=n2_;have BK580:=n3_;have HB:=n4_;clear n0_ n1_ n2_ n3_ n4_;(try clear hb);(try clear hb2);(try clear hk);(try clear hi);(try clear ho0);obtain ⟨Ao44,co44,eo44⟩:=Kd.R_slice HO593.out;subst eo44) | ((with_reducible refine gate_dst (N:=6) rfl ?_);refine box_event ?hg (N:=6) ?hd (cs:=#[.slice none 0 0,.int .u64 0,.slice none 0 0]) (t:=59) ?hr ?_;(case hd => rfl);(case hg => rfl);(case hr => first | (go_simp;done) | (go_simp;rfl));intro gb594 hg w45 hbox hb;have n0_:=Aside0.mk (Kd.V_below (Kd.V_elderB (vV HO585.out) gb594 (Nat.le_of_eq hg.symm)) hb);have n1_:=Aside0.mk (Kd.V_below (Kd.V_elderB (vV HO588.out) gb594 (Nat.le_of_eq hg.symm)) hb);have n2_:=Aside0.mk (Kd.R_below (vR HO593.out) hb);have n3_:=Aside0.mk (blk_below (g:=gb580) (o:=.cells #[.slice none 0 0,.int .u64 0,.slice none 0 0] 59 (0,0)) (vK BK580.out) hb);have n4_:=Aside0.mk (below_step (vBg HB.out GE580.out) hb);have n5_:=Aside0.mk (hbox);have n6_:=Aside0.mk ((by rw [hg];exact (below_size (vBg HB.out GE580.out)):w.heap.size≤gb594));have n7_:=Aside0.mk ((by rw [hg];exact (below_size (vBg HB.out GE580.out)):w.heap.size≤gb594));have n8_:=Aside0.mk ((by rw [hg];exact Nat.ne_of_lt (blk_lt (g:=gb580) (o:=.cells #[.slice none 0 0,.int .u64 0,.slice none 0 0] 59 (0,0)) (vK BK580.out)):gb580≠gb594));have n9_:=Aside0.mk ((by rw [hg];exact Nat.ne_of_gt (blk_lt (g:=gb580) (o:=.cells #[.slice none 0 0,.int .u64 0,.slice none 0 0] 59 (0,0)) (vK BK580.out)):gb594≠gb580));clear HO585;clear HO588;clear HO593;clear BK580;clear HB;have HO585:=n0_;have HO588:=n1_;have HO593:=n2_;have BK580:=n3_;have HB:=n4_;have BK594:=n5_;have GW594:=n6_;have GE594:=n7_;have NB580_594:=n8_;have NB594_580:=n9_;clear n0_ n1_ n2_ n3_ n4_ n5_ n6_ n7_ n8_ n9_;clear hb hbox hg;have hnb46:=NB594_580.out;have hnc46:=NB580_594.out;have hcz47_0:w45.cell? ⟨gb594,0,none⟩ = some (.slice none 0 0):=(blk_cell BK594.out 0).trans rfl;have hcz47_1:w45.cell? ⟨gb594,1,none⟩ = some (.int .u64 0):=(blk_cell BK594.out 1).trans rfl;have hcz47_2:w45.cell? ⟨gb594,2,none⟩ = some (.slice none 0 0):=(blk_cell BK594.out 2).trans rfl;have hfz47_0:=blk_frozen BK594.out 0;have hfz47_1:=blk_frozen BK594.out 1;have hfz47_2:=blk_frozen BK594.out 2;have p595:0≤(0:Int):=(by omega);have q595:0 < (t591.length:Int):=of_decide_eq_true vD;obtain ⟨ad595,e595,hx595_0⟩:=Kd.at_int (Kd.R_reads' HO593.out).2.2 0 p595 q595;cases e595;have qi595:(0 < t591.length) = True:=eq_true (by omega);(try rw [show ((0:Int)).toNat = 0 from rfl] at hx595_0);(try rw [Addr.add_zero'] at hx595_0);have hn595_0:ad595.block≠gb594:=Kd.own_blk (Kd.R_ne HO593.out BK594.out (by decide));have hn595_1:ad595.block≠gb594:=Kd.own_blk (Kd.R_ne HO593.out BK594.out (by decide));have hn595_2:ad595.block≠gb594:=Kd.own_blk (Kd.R_ne HO593.out BK594.out (by decide));replace hx595_0:=(cell_far (p:=⟨gb594,0,none⟩) (by first | (rw [add_block];exact hn595_0) | (show (Addr.add _ _).block≠_;rw [add_block];exact hn595_0) | exact hn595_0) (.slice (some ad595) t591.length co44)).trans hx595_0;replace hx595_0:=(cell_far (p:=⟨gb594,1,none⟩) (by first | (rw [add_block];exact hn595_1) | (show (Addr.add _ _).block≠_;rw [add_block];exact hn595_1) | exact hn595_1) (.int .u64 0)).trans hx595_0;replace hx595_0:=(cell_far (p:=⟨gb594,2,none⟩) (by first | (rw [add_block];exact hn595_2) | (show (Addr.add _ _).block≠_;rw [add_block];exact hn595_2) | exact hn595_2) (.slice none 0 0)).trans hx595_0;clear hn595_0;clear hn595_1;clear hn595_2;replace p595:=eq_true p595;replace q595:=eq_true q595) | ((with_reducible refine gate_callee (f:=77) rfl ?_);refine goesL_ (some 46) rfl rfl Try.func77 (by kernel_rfl) rfl #[.int .u64 (rd t591 0)] rfl vA ?_;(with_reducible refine (sconceref01_Inverse.calls kj1 (rd t591 0) t596 _ A33.out).mono ?_);rintro e w' ⟨rfl,⟨nd,rfl⟩⟩;refine ⟨_,rfl,?_⟩) | ((with_reducible refine gate_callee (f:=55) rfl ?_);refine goesL_ (some 49) rfl rfl Try.func55 (by kernel_rfl) rfl #[.int .u64 1] rfl vA ?_;(with_reducible refine (sconceref03_Small.calls kj1 1 t597 _ A34.out).mono ?_);rintro e w48 ⟨v598,rfl,ho0,hb⟩;refine ⟨_,rfl,?_⟩;have n0_:=Aside0.mk (Kd.V_below (by (with_reducible repeat (first | apply Kd.V_alloc | apply Kd.V_drewN | apply Kd.V_drew));exact (Kd.V_mono (Kd.V_far (p:=⟨gb594,1,none⟩) (Kd.V_drewN (Kd.V_far (p:=⟨gb594,2,none⟩) (Kd.V_far (p:=⟨gb594,1,none⟩) (Kd.V_far (p:=⟨gb594,0,none⟩) (Kd.V_mono HO585.out (fun k_ hk => (⟨hk,hk.2⟩:_∧k_≠gb594))) (fun _ hk => hk.2) (.slice (some ad595) t591.length co44)) (fun _ hk => hk.2) (.int .u64 0)) (fun _ hk => hk.2) (.slice none 0 0)) _) (fun _ hk => hk.2) (.int .u64 (IntKind.u64.wrap (-t596)))) (fun _ h_ => h_.1))) hb);have n1_:=Aside0.mk (Kd.V_below (by (with_reducible repeat (first | apply Kd.V_alloc | apply Kd.V_drewN | apply Kd.V_drew));exact (Kd.V_mono (Kd.V_far (p:=⟨gb594,1,none⟩) (Kd.V_drewN (Kd.V_far (p:=⟨gb594,2,none⟩) (Kd.V_far (p:=⟨gb594,1,none⟩) (Kd.V_far (p:=⟨gb594,0,none⟩) (Kd.V_mono HO588.out (fun k_ hk => (⟨hk,hk.2⟩:_∧k_≠gb594))) (fun _ hk => hk.2) (.slice (some ad595) t591.length co44)) (fun _ hk => hk.2) (.int .u64 0)) (fun _ hk => hk.2) (.slice none 0 0)) _) (fun _ hk => hk.2) (.int .u64 (IntKind.u64.wrap (-t596)))) (fun _ h_ => h_.1))) hb);have n2_:=Aside0.mk (Kd.R_below (by (with_reducible repeat (first | apply Kd.R_alloc | apply Kd.R_drewN | apply Kd.R_drew));exact (Kd.R_mono (Kd.R_far (p:=⟨gb594,1,none⟩) (Kd.R_drewN (Kd.R_far (p:=⟨gb594,2,none⟩) (Kd.R_far (p:=⟨gb594,1,none⟩) (Kd.R_far (p:=⟨gb594,0,none⟩) (Kd.R_types HO593.out BK594.out (by decide)) (fun _ hk => hk.2) (.slice (some ad595) t591.length co44)) (fun _ hk => hk.2) (.int .u64 0)) (fun _ hk => hk.2) (.slice none 0 0)) _) (fun _ hk => hk.2) (.int .u64 (IntKind.u64.wrap (-t596)))) (fun _ h_ => h_.1))) hb);have n3_:=Aside0.mk (Kd.V_lower (Kd.V_mono (ok':=fun k_ => some k_≠(.slice (some ad595) t591.length co44:Value).ownBlock∧k_≠gb580∧k_≠gb594) ho0 (fun k_ hk_ => ⟨(Kd.fresh' (Kd.R_lt (by (with_reducible repeat (first | apply Kd.R_alloc | apply Kd.R_drewN | apply Kd.R_drew));exact (Kd.R_mono (Kd.R_far (p:=⟨gb594,1,none⟩) (Kd.R_drewN (Kd.R_far (p:=⟨gb594,2,none⟩) (Kd.R_far (p:=⟨gb594,1,none⟩) (Kd.R_far (p:=⟨gb594,0,none⟩) (Kd.R_types HO593.out BK594.out (by decide)) (fun _ hk => hk.2) (.slice (some ad595) t591.length co44)) (fun _ hk => hk.2) (.int .u64 0)) (fun _ hk => hk.2) (.slice none 0 0)) _) (fun _ hk => hk.2) (.int .u64 (IntKind.u64.wrap (-t596)))) (fun _ h_ => h_.1)))) k_ hk_),(Kd.freshB (g:=gb580) (o:=.cells #[.slice none 0 0,.int .u64 0,.slice none 0 0] 59 (0,0)) (by (with_reducible repeat (first | refine blk_drewN ?_ _ | refine blk_drew ?_ | refine blk_alloc ?_ _));refine blk_far ?_ NB580_594.out _;(with_reducible repeat (first | refine blk_drewN ?_ _ | refine blk_drew ?_ | refine blk_alloc ?_ _));refine blk_far ?_ NB580_594.out _;(with_reducible repeat (first | refine blk_drewN ?_ _ | refine blk_drew ?_ | refine blk_alloc ?_ _));refine blk_far ?_ NB580_594.out _;(with_reducible repeat (first | refine blk_drewN ?_ _ | refine blk_drew ?_ | refine blk_alloc ?_ _));refine blk_far ?_ NB580_594.out _;(with_reducible repeat (first | refine blk_drewN ?_ _ | refine blk_drew ?_ | refine blk_alloc ?_ _));exact BK580.out) k_ hk_),(Kd.freshB (g:=gb594) (o:=.cells #[.slice (some ad595) t591.length co44,.int .u64 (IntKind.u64.wrap (-t596)),.slice none 0 0] 59 (0,0)) (by (with_reducible repeat (first | refine blk_drewN ?_ _ | refine blk_drew ?_ | refine blk_alloc ?_ _));refine blk_put (cs:=#[.slice (some ad595) t591.length co44,.int .u64 0,.slice none 0 0]) ?_ 1 _ rfl;(with_reducible repeat (first | refine blk_drewN ?_ _ | refine blk_drew ?_ | refine blk_alloc ?_ _));refine blk_put (cs:=#[.slice (some ad595) t591.length co44,.int .u64 0,.slice none 0 0]) ?_ 2 _ rfl;(with_reducible repeat (first | refine blk_drewN ?_ _ | refine blk_drew ?_ | refine blk_alloc ?_ _));refine blk_put (cs:=#[.slice (some ad595) t591.length co44,.int .u64 0,.slice none 0 0]) ?_ 1 _ rfl;(with_reducible repeat (first | refine blk_drewN ?_ _ | refine blk_drew ?_ | refine blk_alloc ?_ _));refine blk_put (cs:=#[.slice none 0 0,.int .u64 0,.slice none 0 0]) ?_ 0 _ rfl;(with_reducible repeat (first | refine blk_drewN ?_ _ | refine blk_drew ?_ | refine blk_alloc ?_ _));exact BK594.out) k_ hk_)⟩)) (below_size (by repeat (first | (with_reducible first | exact HB.out | apply below_alloc | apply pw_below_drewN | apply below_drew1 | refine below_set ?_ GE580.out | refine below_set ?_ GE594.out) | exact HB.out))));have n4_:=Aside0.mk (blk_below (g:=gb580) (o:=.cells #[.slice none 0 0,.int .u64 0,.slice none 0 0] 59 (0,0)) (by (with_reducible repeat (first | refine blk_drewN ?_ _ | refine blk_drew ?_ | refine blk_alloc ?_ _));refine blk_far ?_ NB580_594.out _;(with_reducible repeat (first | refine blk_drewN ?_ _ | refine blk_drew ?_ | refine blk_alloc ?_ _));refine blk_far ?_ NB580_594.out _;(with_reducible repeat (first | refine blk_drewN ?_ _ | refine blk_drew ?_ | refine blk_alloc ?_ _));refine blk_far ?_ NB580_594.out _;(with_reducible repeat (first | refine blk_drewN ?_ _ | refine blk_drew ?_ | refine blk_alloc ?_ _));refine blk_far ?_ NB580_594.out _;(with_reducible repeat (first | refine blk_drewN ?_ _ | refine blk_drew ?_ | refine blk_alloc ?_ _));exact BK580.out) hb);have n5_:=Aside0.mk (blk_below (g:=gb594) (o:=.cells #[.slice (some ad595) t591.length co44,.int .u64 (IntKind.u64.wrap (-t596)),.slice none 0 0] 59 (0,0)) (by (with_reducible repeat (first | refine blk_drewN ?_ _ | refine blk_drew ?_ | refine blk_alloc ?_ _));refine blk_put (cs:=#[.slice (some ad595) t591.length co44,.int .u64 0,.slice none 0 0]) ?_ 1 _ rfl;(with_reducible repeat (first | refine blk_drewN ?_ _ | refine blk_drew ?_ | refine blk_alloc ?_ _));refine blk_put (cs:=#[.slice (some ad595) t591.length co44,.int .u64 0,.slice none 0 0]) ?_ 2 _ rfl;(with_reducible repeat (first | refine blk_drewN ?_ _ | refine blk_drew ?_ | refine blk_alloc ?_ _));refine blk_put (cs:=#[.slice (some ad595) t591.length co44,.int .u64 0,.slice none 0 0]) ?_ 1 _ rfl;(with_reducible repeat (first | refine blk_drewN ?_ _ | refine blk_drew ?_ | refine blk_alloc ?_ _));refine blk_put (cs:=#[.slice none 0 0,.int .u64 0,.slice none 0 0]) ?_ 0 _ rfl;(with_reducible repeat (first | refine blk_drewN ?_ _ | refine blk_drew ?_ | refine blk_alloc ?_ _));exact BK594.out) hb);have n6_:=Aside0.mk (below_step (by repeat (first | (with_reducible first | exact HB.out | apply below_alloc | apply pw_below_drewN | apply below_drew1 | refine below_set ?_ GE580.out | refine below_set ?_ GE594.out) | exact HB.out)) hb);clear HO585;clear HO588;clear HO593;clear BK580;clear BK594;clear HB;have HO585:=n0_;have HO588:=n1_;have HO593:=n2_;have HO599:=n3_;have BK580:=n4_;have BK594:=n5_;have HB:=n6_;clear n0_ n1_ n2_ n3_ n4_ n5_ n6_;(try clear hb);(try clear hb2);(try clear hk);(try clear hi);(try clear ho0);obtain ⟨Ao49,co49,eo49⟩:=Kd.V_slice HO599.out;subst eo49) | ((with_reducible refine gate_callee (f:=79) rfl ?_);refine goesL_ (some 52) rfl rfl Try.func79 (by kernel_rfl) rfl #[.slice Ao49 t597.length co49,.int .i64 (wrap64 (128 * x4_1))] rfl vA ?_;(with_reducible refine (sconceref03_Shl.calls kj1 _ _ t597 (wrap64 (128 * x4_1)) t600 _ ?side1 ?side2 A35.out).mono ?_);(case side1 => repeat (first | exact (Kd.V_reads' HO599.out).2.2 | (with_reducible refine Kd.C_alloc ?_ _) | (with_reducible refine Kd.C_drewN ?_ _) | (with_reducible refine Kd.C_drew ?_)));(case side2 => exact (Kd.V_reads' HO599.out).2.1);rintro e w50 ⟨v601,rfl,ho0,hb⟩;refine ⟨_,rfl,?_⟩;have n0_:=Aside0.mk (Kd.V_below (vV HO585.out) hb);have n1_:=Aside0.mk (Kd.V_below (vV HO588.out) hb);have n2_:=Aside0.mk (Kd.R_below (vR HO593.out) hb);have n3_:=Aside0.mk (Kd.V_below (vV HO599.out) hb);have n4_:=Aside0.mk (Kd.V_lower (Kd.V_mono (ok':=fun k_ => some k_≠(.slice (some ad595) t591.length co44:Value).ownBlock∧k_≠gb580∧k_≠gb594) ho0 (fun k_ hk_ => ⟨(Kd.fresh' (Kd.R_lt (vR HO593.out)) k_ hk_),(Kd.freshB (g:=gb580) (o:=.cells #[.slice none 0 0,.int .u64 0,.slice none 0 0] 59 (0,0)) (vK BK580.out) k_ hk_),(Kd.freshB (g:=gb594) (o:=.cells #[.slice (some ad595) t591.length co44,.int .u64 (IntKind.u64.wrap (-t596)),.slice none 0 0] 59 (0,0)) (vK BK594.out) k_ hk_)⟩)) (below_size (by repeat (first | (with_reducible first | exact HB.out | apply below_alloc | apply pw_below_drewN | apply below_drew1 | refine below_set ?_ GE580.out | refine below_set ?_ GE594.out) | exact HB.out))));have n5_:=Aside0.mk (blk_below (g:=gb580) (o:=.cells #[.slice none 0 0,.int .u64 0,.slice none 0 0] 59 (0,0)) (vK BK580.out) hb);have n6_:=Aside0.mk (blk_below (g:=gb594) (o:=.cells #[.slice (some ad595) t591.length co44,.int .u64 (IntKind.u64.wrap (-t596)),.slice none 0 0] 59 (0,0)) (vK BK594.out) hb);have n7_:=Aside0.mk (below_step (by repeat (first | (with_reducible first | exact HB.out | apply below_alloc | apply pw_below_drewN | apply below_drew1 | refine below_set ?_ GE580.out | refine below_set ?_ GE594.out) | exact HB.out)) hb);clear HO585;clear HO588;clear HO593;clear HO599;clear BK580;clear BK594;clear HB;have HO585:=n0_;have HO588:=n1_;have HO593:=n2_;have HO599:=n3_;have HO602:=n4_;have BK580:=n5_;have BK594:=n6_;have HB:=n7_;clear n0_ n1_ n2_ n3_ n4_ n5_ n6_ n7_;(try clear hb);(try clear hb2);(try clear hk);(try clear hi);(try clear ho0);obtain ⟨Ao51,co51,eo51⟩:=Kd.V_slice HO602.out;subst eo51) | ((with_reducible refine gate_callee (f:=78) rfl ?_);refine goesL_ (some 54) rfl rfl Try.func78 (by kernel_rfl) rfl #[.slice Ao51 t600.length co51,.slice (some ad590) t583.length co41] rfl vA ?_;(with_reducible refine (sconceref03_Mod.calls (fun k_ => (some k_≠(.slice (some ad595) t591.length co44:Value).ownBlock∧(k_≠gb580∧k_≠gb594))) _ _ t600 _ _ t583 t603 _ ?side1 ?side2 ?side3 A36.out).mono ?_);(case side1 => exact HO602.out);(case side2 => repeat (first | exact (Kd.V_reads' HO585.out).2.2 | (with_reducible refine Kd.C_alloc ?_ _) | (with_reducible refine Kd.C_drewN ?_ _) | (with_reducible refine Kd.C_drew ?_)));(case side3 => exact (Kd.V_reads' HO585.out).2.1);rintro e w52 ⟨v604,rfl,ho0,hb⟩;refine ⟨_,rfl,?_⟩;have n0_:=Aside0.mk (Kd.V_below (vV HO585.out) hb);have n1_:=Aside0.mk (Kd.V_below (vV HO588.out) hb);have n2_:=Aside0.mk (Kd.R_below (vR HO593.out) hb);have n3_:=Aside0.mk (Kd.V_below (vV HO599.out) hb);have n4_:=Aside0.mk (Kd.V_below (vV HO602.out) hb);have n5_:=Aside0.mk (Kd.V_lower (Kd.V_mono (ok':=fun k_ => some k_≠(.slice (some ad595) t591.length co44:Value).ownBlock∧k_≠gb580∧k_≠gb594) ho0 (fun k_ hk_ => ⟨Or.elim hk_ (fun hs_ => hs_.1) (fun hn_ => (Kd.fresh' (Kd.R_lt (vR HO593.out)) k_ hn_)),Or.elim hk_ (fun hs_ => hs_.2.1) (fun hn_ => (Kd.freshB (g:=gb580) (o:=.cells #[.slice none 0 0,.int .u64 0,.slice none 0 0] 59 (0,0)) (vK BK580.out) k_ hn_)),Or.elim hk_ (fun hs_ => hs_.2.2) (fun hn_ => (Kd.freshB (g:=gb594) (o:=.cells #[.slice (some ad595) t591.length co44,.int .u64 (IntKind.u64.wrap (-t596)),.slice none 0 0] 59 (0,0)) (vK BK594.out) k_ hn_))⟩)) (below_size (by repeat (first | (with_reducible first | exact HB.out | apply below_alloc | apply pw_below_drewN | apply below_drew1 | refine below_set ?_ GE580.out | refine below_set ?_ GE594.out) | exact HB.out))));have n6_:=Aside0.mk (blk_below (g:=gb580) (o:=.cells #[.slice none 0 0,.int .u64 0,.slice none 0 0] 59 (0,0)) (vK BK580.out) hb);have n7_:=Aside0.mk (blk_below (g:=gb594) (o:=.cells #[.slice (some ad595) t591.length co44,.int .u64 (IntKind.u64.wrap (-t596)),.slice none 0 0] 59 (0,0)) (vK BK594.out) hb);have n8_:=Aside0.mk (below_step (by repeat (first | (with_reducible first | exact HB.out | apply below_alloc | apply pw_below_drewN | apply below_drew1 | refine below_set ?_ GE580.out | refine below_set ?_ GE594.out) | exact HB.out)) hb);clear HO585;clear HO588;clear HO593;clear HO599;clear HO602;clear BK580;clear BK594;clear HB;have HO585:=n0_;have HO588:=n1_;have HO593:=n2_;have HO599:=n3_;have HO602:=n4_;have HO605:=n5_;have BK580:=n6_;have BK594:=n7_;have HB:=n8_;clear n0_ n1_ n2_ n3_ n4_ n5_ n6_ n7_ n8_;(try clear hb);(try clear hb2);(try clear hk);(try clear hi);(try clear ho0);obtain ⟨Ao53,co53,eo53⟩:=Kd.V_slice HO605.out;subst eo53) | ((with_reducible refine gate_callee (f:=50) rfl ?_);refine goesL_ (some 56) rfl rfl Try.func50 (by kernel_rfl) rfl #[.slice Ao53 t603.length co53,.int .i64 x4_1] rfl vA ?_;(with_reducible refine (sconceref03_Nat.calls kj1 _ _ t603 x4_1 t606 _ ?side1 ?side2 A37.out).mono ?_);(case side1 => repeat (first | exact (Kd.V_reads' HO605.out).2.2 | (with_reducible refine Kd.C_alloc ?_ _) | (with_reducible refine Kd.C_drewN ?_ _) | (with_reducible refine Kd.C_drew ?_)));(case side2 => exact (Kd.V_reads' HO605.out).2.1);rintro e w54 ⟨v607,rfl,ho0,hb⟩;refine ⟨_,rfl,?_⟩;have n0_:=Aside0.mk (Kd.V_elder' (vV HO585.out) (Kd.R_base ho0) hb);have n1_:=Aside0.mk (Kd.V_elder' (vV HO588.out) (Kd.R_base ho0) hb);have n2_:=Aside0.mk (Kd.R_elder' (vR HO593.out) (Kd.R_base ho0) hb);have n3_:=Aside0.mk (Kd.V_elder' (vV HO599.out) (Kd.R_base ho0) hb);have n4_:=Aside0.mk (Kd.V_elder' (vV HO602.out) (Kd.R_base ho0) hb);have n5_:=Aside0.mk (Kd.V_elder' (vV HO605.out) (Kd.R_base ho0) hb);have n6_:=Aside0.mk (Kd.R_lower (Kd.R_new' ho0 (Kd.R_lt (vR HO593.out))) (below_size (by repeat (first | (with_reducible first | exact HB.out | apply below_alloc | apply pw_below_drewN | apply below_drew1 | refine below_set ?_ GE580.out | refine below_set ?_ GE594.out) | exact HB.out))));have n7_:=Aside0.mk (blk_below (g:=gb580) (o:=.cells #[.slice none 0 0,.int .u64 0,.slice none 0 0] 59 (0,0)) (vK BK580.out) hb);have n8_:=Aside0.mk (blk_below (g:=gb594) (o:=.cells #[.slice (some ad595) t591.length co44,.int .u64 (IntKind.u64.wrap (-t596)),.slice none 0 0] 59 (0,0)) (vK BK594.out) hb);have n9_:=Aside0.mk (below_step (by repeat (first | (with_reducible first | exact HB.out | apply below_alloc | apply pw_below_drewN | apply below_drew1 | refine below_set ?_ GE580.out | refine below_set ?_ GE594.out) | exact HB.out)) hb);clear HO585;clear HO588;clear HO593;clear HO599;clear HO602;clear HO605;clear BK580;clear BK594;clear HB;have HO585:=n0_;have HO588:=n1_;have HO593:=n2_;have HO599:=n3_;have HO602:=n4_;have HO605:=n5_;have HO608:=n6_;have BK580:=n7_;have BK594:=n8_;have HB:=n9_;clear n0_ n1_ n2_ n3_ n4_ n5_ n6_ n7_ n8_ n9_;(try clear hb);(try clear hb2);(try clear hk);(try clear hi);(try clear ho0);obtain ⟨Ao55,co55,eo55⟩:=Kd.R_slice HO608.out;subst eo55;have hcz56_0:w54.cell? ⟨gb594,0,none⟩ = some (.slice (some ad595) t591.length co44):=(blk_cell BK594.out 0).trans rfl;have hcz56_1:w54.cell? ⟨gb594,1,none⟩ = some (.int .u64 (IntKind.u64.wrap (-t596))):=(blk_cell BK594.out 1).trans rfl;have hcz56_2:w54.cell? ⟨gb594,2,none⟩ = some (.slice none 0 0):=(blk_cell BK594.out 2).trans rfl;have hfz56_0:=blk_frozen BK594.out 0;have hfz56_1:=blk_frozen BK594.out 1;have hfz56_2:=blk_frozen BK594.out 2;have hcz57_0:w54.cell? ⟨gb580,0,none⟩ = some (.slice none 0 0):=(blk_cell BK580.out 0).trans rfl;have hcz57_1:w54.cell? ⟨gb580,1,none⟩ = some (.int .u64 0):=(blk_cell BK580.out 1).trans rfl;have hcz57_2:w54.cell? ⟨gb580,2,none⟩ = some (.slice none 0 0):=(blk_cell BK580.out 2).trans rfl;have hfz57_0:=blk_frozen BK580.out 0;have hfz57_1:=blk_frozen BK580.out 1;have hfz57_2:=blk_frozen BK580.out 2))
          refine bodyPost_ret (results_ct rfl _ _ gb580 59 #[.slice (some ad595) t591.length co44,.int .u64 (IntKind.u64.wrap (-t596)),.slice Ao55 t606.length co55] (0,0) _ rfl (by (with_reducible repeat (first | refine blk_drewN ?_ _ | refine blk_drew ?_ | refine blk_alloc ?_ _));refine blk_put (cs:=#[.slice (some ad595) t591.length co44,.int .u64 (IntKind.u64.wrap (-t596)),.slice none 0 0]) ?_ 2 _ rfl;(with_reducible repeat (first | refine blk_drewN ?_ _ | refine blk_drew ?_ | refine blk_alloc ?_ _));refine blk_put (cs:=#[.slice (some ad595) t591.length co44,.int .u64 0,.slice none 0 0]) ?_ 1 _ rfl;(with_reducible repeat (first | refine blk_drewN ?_ _ | refine blk_drew ?_ | refine blk_alloc ?_ _));refine blk_put (cs:=#[.slice none 0 0,.int .u64 0,.slice none 0 0]) ?_ 0 _ rfl;(with_reducible repeat (first | refine blk_drewN ?_ _ | refine blk_drew ?_ | refine blk_alloc ?_ _));refine blk_far ?_ NB580_594.out _;(with_reducible repeat (first | refine blk_drewN ?_ _ | refine blk_drew ?_ | refine blk_alloc ?_ _));exact BK580.out) Try.underlying59 rfl (by kernel_rfl)) rfl ?_
          exact ⟨_,_,by first | rfl | (simp [errW_none,errW_some] <;> rfl) | (simp [*,errW_none,errW_some] <;> rfl),by (with_reducible repeat (first | apply Kd.R_alloc | apply Kd.R_drewN | apply Kd.R_drew));exact Kd.R_mono (Kd.R_far (p:=⟨gb580,2,none⟩) (Kd.R_far (p:=⟨gb580,1,none⟩) (Kd.R_far (p:=⟨gb580,0,none⟩) (Kd.R_far (p:=⟨gb594,2,none⟩) (Kd.R_types (Kd.R_types HO593.out BK594.out (by decide)) BK580.out (by decide)) (fun _ hk => hk.1.2) (.slice Ao55 t606.length co55)) (fun _ hk => hk.2) (.slice (some ad595) t591.length co44)) (fun _ hk => hk.2) (.int .u64 (IntKind.u64.wrap (-t596)))) (fun _ hk => hk.2) (.slice Ao55 t606.length co55)) (fun _ hk => hk.1.1.2),by (with_reducible repeat (first | apply Kd.R_alloc | apply Kd.R_drewN | apply Kd.R_drew));exact Kd.R_mono (Kd.R_far (p:=⟨gb580,2,none⟩) (Kd.R_far (p:=⟨gb580,1,none⟩) (Kd.R_far (p:=⟨gb580,0,none⟩) (Kd.R_far (p:=⟨gb594,2,none⟩) (Kd.R_types (Kd.R_types HO608.out BK594.out (by decide)) BK580.out (by decide)) (fun _ hk => hk.1.2) (.slice Ao55 t606.length co55)) (fun _ hk => hk.2) (.slice (some ad595) t591.length co44)) (fun _ hk => hk.2) (.int .u64 (IntKind.u64.wrap (-t596)))) (fun _ hk => hk.2) (.slice Ao55 t606.length co55)) (fun _ hk => hk.1.1.2),by repeat (first | (with_reducible first | exact HB.out | apply below_alloc | apply pw_below_drewN | apply below_drew1 | refine below_set ?_ GE580.out | refine below_set ?_ GE594.out) | exact HB.out)⟩
         ·
          rw [if_neg c32] at H
          exact absurd H (by simp)
       ·
        rw [if_neg c23] at H
        exact absurd H (by simp)
     ·
      rw [if_neg c12] at H
      exact absurd H (by simp)
    ·
     rw [if_neg c11] at H
     exact absurd H (by simp)
end Go.Proofs.Ytalfniohakahlaa.X
