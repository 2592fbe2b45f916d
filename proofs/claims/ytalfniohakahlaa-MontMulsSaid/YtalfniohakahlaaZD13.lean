/- Texts of the walk and of the plain laws, laid together by a program: X8. -/
import Derived.Test.YtalfniohakahlaaZD0
import Derived.Test.YtalfniohakahlaaZD1
import Derived.Test.YtalfniohakahlaaZD2
import Derived.Test.YtalfniohakahlaaZD5
import Derived.Test.YtalfniohakahlaaZD4
import Derived.Test.YtalfniohakahlaaZD3
import Derived.Test.YtalfniohakahlaaZD8
import Derived.Test.YtalfniohakahlaaZD10
import Derived.Test.YtalfniohakahlaaZD12
set_option maxHeartbeats 8000000
set_option maxRecDepth 100000
namespace Go.Proofs.Ytalfniohakahlaa.X
open Go.RowKit Go.Proofs.YtalfniohakahlaaW.PrintWords Go.Proofs.YtalfniohakahlaaW.PrintLast Go.Proofs.YtalfniohakahlaaW.PrintMore
attribute [local go_sem] max2_int min2_int max_two min_two max_three min_three max_four min_four
set_option linter.unusedVariables false
set_option linter.unusedSimpArgs false
def nat_Bits.f (k:Nat) (l0:List Int):Option (Int):=(nat_least.f k l0).bind fun t181 => (if t181 = 0 then (some 0) else (if 0≤(wrap64 (t181 - 1)) then (if (wrap64 (t181 - 1)) < (l0.length:Int) then ((bits_Len64.f (rd l0 (wrap64 (t181 - 1)))).bind fun t183 => (some (wrap64 ((wrap64 (64 * (wrap64 (t181 - 1)))) + t183)))) else (none)) else (none)))
theorem nat_Bits.calls (k:Nat) (A0:Option Addr) (c0:Nat) (l0:List Int) (r:Int) (w:World) (hr0:Kd.C (Kd.int .u64) w A0 l0.length l0) (hc0:l0.length≤c0) (h:nat_Bits.f k l0 = some r) :
  Calls Try.prog 68 #[.slice A0 l0.length c0] w fun e w' => e = .returned (.int .i64 r)∧Drawn0 w w':=by
 have HR0:=Aside0.mk hr0
 have HC0:=Aside0.mk hc0
 clear hr0 hc0
 have H:((nat_least.f k l0).bind fun t181 => (if t181 = 0 then (some 0) else (if 0≤(wrap64 (t181 - 1)) then (if (wrap64 (t181 - 1)) < (l0.length:Int) then ((bits_Len64.f (rd l0 (wrap64 (t181 - 1)))).bind fun t183 => (some (wrap64 ((wrap64 (64 * (wrap64 (t181 - 1)))) + t183)))) else (none)) else (none)))) = some r:=h
 clear h
 replace H:=Option.bind_eq_some_iff.mp H
 obtain ⟨t181,A20,H⟩:=H
 replace H:(if t181 = 0 then (some 0) else (if 0≤(wrap64 (t181 - 1)) then (if (wrap64 (t181 - 1)) < (l0.length:Int) then ((bits_Len64.f (rd l0 (wrap64 (t181 - 1)))).bind fun t183 => (some (wrap64 ((wrap64 (64 * (wrap64 (t181 - 1)))) + t183)))) else (none)) else (none))) = some r:=H
 have A2:=Aside0.mk A20
 clear A20
 by_cases c3:t181 = 0
 ·
  rw [if_pos c3] at H
  have c3b0:(t181 == 0) = true:=beq_iff_eq.mpr c3
  have c3b1:(t181 != 0) = false:=bne_eq_false_iff_eq.mpr c3
  clear c3
  obtain rfl:=Option.some.inj H
  go_enter Try.func68,Try.ntmps68
  go_wp2_with (first | ((with_reducible refine gate_callee (f:=98) rfl ?_);refine goesL_ (some 5) rfl rfl Try.func98 (by kernel_rfl) rfl #[.slice A0 l0.length c0] rfl vA ?_;(with_reducible refine (nat_least.calls k _ _ l0 t181 _ ?side1 ?side2 A2.out).mono ?_);(case side1 => repeat (first | exact HR0.out | (with_reducible refine Kd.C_alloc ?_ _) | (with_reducible refine Kd.C_drewN ?_ _) | (with_reducible refine Kd.C_drew ?_)));(case side2 => exact HC0.out);rintro e w' ⟨rfl,⟨nd,rfl⟩⟩;refine ⟨_,rfl,?_⟩))
  go_ret
  exact ⟨by first | rfl | (simp;done) | (simp [*];done),by repeat (first | exact Drawn0.refl _ | apply Drawn0.step)⟩
 ·
  rw [if_neg c3] at H
  have c3b0:(t181 == 0) = false:=beq_eq_false_iff_ne.mpr c3
  have c3b1:(t181 != 0) = true:=bne_iff_ne.mpr c3
  obtain ⟨ji4,hji4⟩:∃ j_:Int,(wrap64 (t181 - 1)) = j_:=⟨_,rfl⟩
  replace H:(if 0≤(ji4) then (if (ji4) < (l0.length:Int) then ((bits_Len64.f (rd l0 (ji4))).bind fun t183 => (some (wrap64 ((wrap64 (64 * (ji4))) + t183)))) else (none)) else (none)) = some r:=by first | (rw [hji4] at H;exact H) | (simp only [hji4] at H ⊢;exact H)
  (try rw [hji4] at A2)
  have hji4w:(IntKind.i64.wrap (t181 - 1)) = ji4:=(i64_w _).trans hji4
  by_cases c5:0≤(ji4)
  ·
   rw [if_pos c5] at H
   have c5b0:decide (0≤(ji4)) = true:=decide_eq_true c5
   clear c5
   by_cases c6:(ji4) < (l0.length:Int)
   ·
    rw [if_pos c6] at H
    have c6b0:decide ((ji4) < (l0.length:Int)) = true:=decide_eq_true c6
    clear c6
    replace H:=Option.bind_eq_some_iff.mp H
    obtain ⟨t183,A70,H⟩:=H
    replace H:(some (wrap64 ((wrap64 (64 * (ji4))) + t183))) = some r:=H
    have A7:=Aside0.mk A70
    clear A70
    obtain rfl:=Option.some.inj H
    go_enter Try.func68,Try.ntmps68
    go_wp2_with (first | ((with_reducible refine gate_callee (f:=98) rfl ?_);refine goesL_ (some 5) rfl rfl Try.func98 (by kernel_rfl) rfl #[.slice A0 l0.length c0] rfl vA ?_;(with_reducible refine (nat_least.calls k _ _ l0 t181 _ ?side1 ?side2 A2.out).mono ?_);(case side1 => repeat (first | exact HR0.out | (with_reducible refine Kd.C_alloc ?_ _) | (with_reducible refine Kd.C_drewN ?_ _) | (with_reducible refine Kd.C_drew ?_)));(case side2 => exact HC0.out);rintro e w' ⟨rfl,⟨nd,rfl⟩⟩;refine ⟨_,rfl,?_⟩;have p182:0≤((ji4):Int):=of_decide_eq_true vD;have q182:(ji4) < (l0.length:Int):=of_decide_eq_true vD;obtain ⟨ad182,e182,hx182_0⟩:=Kd.at_int HR0.out (ji4) p182 q182;cases e182;replace p182:=eq_true p182;replace q182:=eq_true q182) | ((with_reducible refine gate_callee (f:=99) rfl ?_);refine goesL_ (some 16) rfl rfl Try.func99 (by kernel_rfl) rfl #[.int .u64 (rd l0 (ji4))] rfl (by (try simp only [List.map_toArray,List.map_cons,List.map_nil]);first | done | (simp only [hji4];rfl) | rfl | (simp only [List.length_drop,List.length_take];rfl)) ?_;(with_reducible refine (bits_Len64.calls (rd l0 (ji4)) t183 _ A7.out).mono ?_);rintro e w' ⟨rfl,⟨nd,rfl⟩⟩;refine ⟨_,rfl,?_⟩))
    go_ret
    exact ⟨by first | rfl | (simp;done) | (simp only [← hji4] <;> (first | rfl | simp)) | (simp [*];done),by repeat (first | exact Drawn0.refl _ | apply Drawn0.step)⟩
   ·
    rw [if_neg c6] at H
    exact absurd H (by simp)
  ·
   rw [if_neg c5] at H
   exact absurd H (by simp)
def sconceref03_Shl.l0:Nat→Int→List Int→Int→List Int→Int→Int→Option (List Int)
 | 0,_,_,_,_,_,_ => none
 | k + 1,x1,x5,x6,x18,x19,x20 => if x20 < x19 then (if 0≤x20 then (if x20 < (x18.length:Int) then (if 0≤(IntKind.u64.wrap (Int.tmod x1 32)) then (if x5.length < 35184372088832 then (sconceref03_Shl.l0 k x1 (x5 ++ [(Go.bits .or .u64 x6 (shl .u64 (IntKind.u64.wrap (rd x18 x20)) (IntKind.u64.wrap (Int.tmod x1 32)))) % 4294967296]) ((Go.bits .or .u64 x6 (shl .u64 (IntKind.u64.wrap (rd x18 x20)) (IntKind.u64.wrap (Int.tmod x1 32)))) / 4294967296) x18 x19 (wrap64 (x20 + 1))) else (none)) else (none)) else (none)) else (none)) else (if x5.length < 35184372088832 then ((sconceref03_trim.f k (x5 ++ [(x6) % 4294967296])).bind fun t194 => (some t194)) else (none))
def sconceref03_Shl.f (k:Nat) (l0:List Int) (a1:Int):Option (List Int):=if 0≤(wrap64 (Int.tdiv a1 32)) then (if (wrap64 (Int.tdiv a1 32))≤(wrap64 ((wrap64 ((wrap64 (Int.tdiv a1 32)) + (l0.length:Int))) + 1)) then (if (wrap64 ((wrap64 ((wrap64 (Int.tdiv a1 32)) + (l0.length:Int))) + 1):Int).toNat≤70368744177664 then (sconceref03_Shl.l0 k a1 (List.replicate (wrap64 (Int.tdiv a1 32):Int).toNat 0) 0 l0 (l0.length:Int) 0) else (none)) else (none)) else (none)
theorem sconceref03_Shl.calls (k:Nat) (A0:Option Addr) (c0:Nat) (l0:List Int) (a1:Int) (r:List Int) (w:World) (hr0:Kd.C (Kd.int .u32) w A0 l0.length l0) (hc0:l0.length≤c0) (h:sconceref03_Shl.f k l0 a1 = some r) :
  Calls Try.prog 79 #[.slice A0 l0.length c0,.int .i64 a1] w fun e w' => ∃ v0_:Value,e = .returned (v0_)∧Kd.V (Kd.int .u32) 78 w' w.heap.size (fun k_ => (w.heap.size≤k_)) v0_ r∧Below w.heap.size w w':=by
 have HR0:=Aside0.mk hr0
 have HC0:=Aside0.mk hc0
 clear hr0 hc0
 have HB:=Aside0.mk (Below.refl w.heap.size w)
 have H:(if 0≤(wrap64 (Int.tdiv a1 32)) then (if (wrap64 (Int.tdiv a1 32))≤(wrap64 ((wrap64 ((wrap64 (Int.tdiv a1 32)) + (l0.length:Int))) + 1)) then (if (wrap64 ((wrap64 ((wrap64 (Int.tdiv a1 32)) + (l0.length:Int))) + 1):Int).toNat≤70368744177664 then (sconceref03_Shl.l0 k a1 (List.replicate (wrap64 (Int.tdiv a1 32):Int).toNat 0) 0 l0 (l0.length:Int) 0) else (none)) else (none)) else (none)) = some r:=h
 clear h
 obtain ⟨ji3,hji3⟩:∃ j_:Int,(wrap64 (Int.tdiv a1 32)) = j_:=⟨_,rfl⟩
 replace H:(if 0≤(ji3) then (if (ji3)≤(wrap64 ((wrap64 ((ji3) + (l0.length:Int))) + 1)) then (if (wrap64 ((wrap64 ((ji3) + (l0.length:Int))) + 1):Int).toNat≤70368744177664 then (sconceref03_Shl.l0 k a1 (List.replicate (ji3:Int).toNat 0) 0 l0 (l0.length:Int) 0) else (none)) else (none)) else (none)) = some r:=by first | (rw [hji3] at H;exact H) | (simp only [hji3] at H ⊢;exact H)
 have hji3w:(IntKind.i64.wrap (Int.tdiv a1 32)) = ji3:=(i64_w _).trans hji3
 by_cases c4:0≤(ji3)
 ·
  rw [if_pos c4] at H
  have c4b0:=eq_true c4
  have c4b1:decide (0≤(ji3)) = true:=decide_eq_true c4
  clear c4
  by_cases c5:(ji3)≤(wrap64 ((wrap64 ((ji3) + (l0.length:Int))) + 1))
  ·
   rw [if_pos c5] at H
   have c5b0:=eq_true c5
   have c5b1:decide ((ji3)≤(wrap64 ((wrap64 ((ji3) + (l0.length:Int))) + 1))) = true:=decide_eq_true c5
   by_cases c6:(wrap64 ((wrap64 ((ji3) + (l0.length:Int))) + 1):Int).toNat≤70368744177664
   ·
    rw [if_pos c6] at H
    have c6b0:=eq_true c6
    have c6b1:decide ((wrap64 ((wrap64 ((ji3) + (l0.length:Int))) + 1):Int).toNat≤70368744177664) = true:=decide_eq_true c6
    obtain ⟨y184,hy184⟩:∃ y_:List Int,y_ = (List.replicate (ji3:Int).toNat 0):=⟨_,rfl⟩
    replace H:(sconceref03_Shl.l0 k a1 y184 0 l0 (l0.length:Int) 0) = some r:=by first | (rw [hy184];with_reducible exact H) | (have H2_:=(Option.bind_some _ _).symm.trans H;rw [hy184];with_reducible exact H2_) | (have H2_:=(Option.bind_some _ _).symm.trans H;with_reducible exact H2_) | with_reducible exact H | (rw [hy184];exact H) | exact H
    have Ny184:=Aside0.mk hy184
    clear hy184
    have H':=Aside0.mk H
    clear H
    go_enter Try.func79,Try.ntmps79
    go_wp2_with (first | ((with_reducible refine gate_dst (N:=17) rfl ?_);refine R_makec .u32 _ 78 rfl (N:=17) rfl 31 _ _ rfl ji3 (wrap64 ((wrap64 ((ji3) + (l0.length:Int))) + 1)) rfl rfl Try.underlying31 4 info78 (by omega) (ok:=fun _ => True) trivial (of_decide_eq_true vD) (of_decide_eq_true vD) (Nat.le_trans (Nat.mul_le_mul_right _ (of_decide_eq_true vD:(wrap64 ((wrap64 ((ji3) + (l0.length:Int))) + 1)).toNat≤70368744177664)) (by omega)) (Below.refl _ _) (Nat.le_refl _) ?_;intro v185 w7 ho8 hb hg_ hnew_;clear hg_ hnew_;(first | rw [← Ny184.out] at ho8 | (simp only [Int.reduceToNat] at ho8;rw [← Ny184.out] at ho8));have n0_:=Aside0.mk (Kd.R_lower (Kd.R_newM (M:=fun k_ => (w.heap.size≤k_)) ho8 (below_size (vB HB.out)) (fun k_ h_ => h_)) (below_size (vB HB.out)));have n1_:=Aside0.mk (below_step (vB HB.out) hb);clear HB;have HO186:=n0_;have HB:=n1_;clear n0_ n1_;clear hb ho8))
    go_loopg [5,6,20] k (fun kq v5 v6 v20 w' => ∃ (x5_1:List Int) (x6_1:Int) (x20_1:Int),v6 = .int .u64 x6_1∧v20 = .int .i64 x20_1∧Aside0 (sconceref03_Shl.l0 kq a1 x5_1 x6_1 l0 (l0.length:Int) x20_1 = some r)∧Aside0 (kq≤k)∧Aside0 (Kd.R (Kd.int .u32) 78 w' w.heap.size (fun k_ => (w.heap.size≤k_)) v5 x5_1)∧Aside0 (Below w.heap.size w w'))
    case atStart => exact ⟨(y184),(0),(0),(by first | rfl | (simp;done) | (simp [*];done)),(by first | rfl | (simp;done) | (simp [*];done)),H',⟨Nat.le_refl _⟩,⟨by (with_reducible repeat (first | apply Kd.R_alloc | apply Kd.R_drewN | apply Kd.R_drew));exact Kd.R_mono HO186.out (fun _ hk => hk.1)⟩,⟨by repeat (first | (with_reducible first | exact HB.out | apply below_alloc | apply pw_below_drewN | apply below_drew1) | exact HB.out)⟩⟩
    case round =>
     clear H'
     try clear p2
     try clear c4
     try clear c4b0
     try clear c4b1
     try clear c5
     try clear c5b0
     try clear c5b1
     try clear c6
     try clear c6b0
     try clear c6b1
     try clear p6
     try clear c7
     obtain ⟨x5_1,x6_1,x20_1,rfl,rfl,HA,HK1,HO_5,HB⟩:=hrel
     cases gk with
     | zero => exact absurd HA.out (by simp [sconceref03_Shl.l0])
     | succ k1 =>
      have H:=HA.out
      clear HA
      simp only [sconceref03_Shl.l0] at H
      by_cases c9:x20_1 < (l0.length:Int)
      ·
       rw [if_pos c9] at H
       have c9b0:decide (x20_1 < (l0.length:Int)) = true:=decide_eq_true c9
       clear c9
       by_cases c10:0≤x20_1
       ·
        rw [if_pos c10] at H
        have c10b0:decide (0≤x20_1) = true:=decide_eq_true c10
        clear c10
        by_cases c11:x20_1 < (l0.length:Int)
        ·
         rw [if_pos c11] at H
         have c11b0:decide (x20_1 < (l0.length:Int)) = true:=decide_eq_true c11
         clear c11
         obtain ⟨ji12,hji12⟩:∃ j_:Int,(IntKind.u64.wrap (Int.tmod a1 32)) = j_:=⟨_,rfl⟩
         replace H:(if 0≤(ji12) then (if x5_1.length < 35184372088832 then (sconceref03_Shl.l0 k1 a1 (x5_1 ++ [(Go.bits .or .u64 x6_1 (shl .u64 (IntKind.u64.wrap (rd l0 x20_1)) (ji12))) % 4294967296]) ((Go.bits .or .u64 x6_1 (shl .u64 (IntKind.u64.wrap (rd l0 x20_1)) (ji12))) / 4294967296) l0 (l0.length:Int) (wrap64 (x20_1 + 1))) else (none)) else (none)) = some r:=by first | (rw [hji12] at H;exact H) | (simp only [hji12] at H ⊢;exact H)
         by_cases c13:0≤(ji12)
         ·
          rw [if_pos c13] at H
          have c13b0:=eq_true c13
          have c13b1:decide (0≤(ji12)) = true:=decide_eq_true c13
          clear c13
          obtain ⟨ji14,hji14⟩:∃ j_:Int,(shl .u64 (IntKind.u64.wrap (rd l0 x20_1)) (ji12)) = j_:=⟨_,rfl⟩
          replace H:(if x5_1.length < 35184372088832 then (sconceref03_Shl.l0 k1 a1 (x5_1 ++ [(Go.bits .or .u64 x6_1 (ji14)) % 4294967296]) ((Go.bits .or .u64 x6_1 (ji14)) / 4294967296) l0 (l0.length:Int) (wrap64 (x20_1 + 1))) else (none)) = some r:=by first | (rw [hji14] at H;exact H) | (simp only [hji14] at H ⊢;exact H)
          have hji14_:(IntKind.u64.wrap ((IntKind.u64.wrap (rd l0 x20_1)) * 2 ^ min (ji12).toNat 64)) = ji14:=hji14
          have hji14z:(ji12)≤64→(IntKind.u64.wrap ((IntKind.u64.wrap (rd l0 x20_1)) * 2 ^ (ji12).toNat)) = ji14:=shl_small hji14
          by_cases c15:x5_1.length < 35184372088832
          ·
           rw [if_pos c15] at H
           have LMc15:=Aside0.mk c15
           clear c15
           obtain ⟨y188,hy188⟩:∃ y_:List Int,y_ = (x5_1 ++ [(Go.bits .or .u64 x6_1 (ji14)) % 4294967296]):=⟨_,rfl⟩
           replace H:(sconceref03_Shl.l0 k1 a1 y188 ((Go.bits .or .u64 x6_1 (ji14)) / 4294967296) l0 (l0.length:Int) (wrap64 (x20_1 + 1))) = some r:=by first | (rw [hy188];with_reducible exact H) | (have H2_:=(Option.bind_some _ _).symm.trans H;rw [hy188];with_reducible exact H2_) | (have H2_:=(Option.bind_some _ _).symm.trans H;with_reducible exact H2_) | with_reducible exact H | (rw [hy188];exact H) | exact H
           have Ny188:=Aside0.mk hy188
           clear hy188
           have H':=Aside0.mk H
           clear H
           have p187:0≤(x20_1:Int):=of_decide_eq_true vD
           have q187:x20_1 < (l0.length:Int):=of_decide_eq_true vD
           obtain ⟨ad187,e187,hx187_0⟩:=Kd.at_int HR0.out x20_1 p187 q187
           cases e187
           replace hx187_0:=(HB.out.cell (World.block_lt_of_cell? w _ hx187_0)).trans hx187_0
           replace p187:=eq_true p187
           replace q187:=eq_true q187
           go_wp2_with (first | ((with_reducible refine gate_builtin (b:=.append) (xs:=#[.tmp 32,.tmp 35]) rfl ?_);at_builtin;refine Kd.R_append (Kd.int .u32) (w0:=w) w.heap.size rfl (.tmp 32) (.tmp 35) 31 78 (.int .u32 0) 4 rfl Try.underlying31 info78 rfl (by decide) (by omega) u5 x5_1 ((Go.bits .or .u64 x6_1 (ji14)) % 4294967296) [.int .u32 ((Go.bits .or .u64 x6_1 (ji14)) % 4294967296)] (fun k_ => (w.heap.size≤k_)) (fun _ => False) rfl rfl ?aP (fun _ hk => hk.elim) ?aF ?aO ?aB ?aS ?aL ?_;(case aP => exact rfl);(case aB => exact (vB HB.out));(case aF => exact (fun k_ hk => (Nat.le_trans (below_size (vB HB.out)) hk)));(case aO => exact (vR HO_5.out));(case aS => exact (below_size (vB HB.out)));(case aL => have:=LMc15.out;omega);intro v189 w16 ho hb hg hat;rw [← Ny188.out] at ho;have n0_:=Aside0.mk (hb);have n1_:=Aside0.mk (ho);clear HB;clear HO_5;have HB:=n0_;have HO190:=n1_;clear n0_ n1_;clear ho hb hg hat))
           go_roundg k1
           case measure => have:=HK1.out;omega
           case rel => exact ⟨(y188),((Go.bits .or .u64 x6_1 (ji14)) / 4294967296),(wrap64 (x20_1 + 1)),(by first | rfl | (simp;done) | (simp only [← hji14] <;> (first | rfl | simp)) | (simp [*];done)),(by first | rfl | (simp;done) | (simp [*];done)),H',⟨by have:=HK1.out;omega⟩,⟨by (with_reducible repeat (first | apply Kd.R_alloc | apply Kd.R_drewN | apply Kd.R_drew));exact HO190.out⟩,⟨by repeat (first | (with_reducible first | exact HB.out | apply below_alloc | apply pw_below_drewN | apply below_drew1) | exact HB.out)⟩⟩
          ·
           rw [if_neg c15] at H
           exact absurd H (by simp)
         ·
          rw [if_neg c13] at H
          exact absurd H (by simp)
        ·
         rw [if_neg c11] at H
         exact absurd H (by simp)
       ·
        rw [if_neg c10] at H
        exact absurd H (by simp)
      ·
       rw [if_neg c9] at H
       have c9b0:decide (x20_1 < (l0.length:Int)) = false:=decide_eq_false c9
       clear c9
       by_cases c17:x5_1.length < 35184372088832
       ·
        rw [if_pos c17] at H
        have LMc17:=Aside0.mk c17
        clear c17
        obtain ⟨y191,hy191⟩:∃ y_:List Int,y_ = (x5_1 ++ [(x6_1) % 4294967296]):=⟨_,rfl⟩
        replace H:((sconceref03_trim.f k1 y191).bind fun t194 => (some t194)) = some r:=by first | (rw [hy191];with_reducible exact H) | (have H2_:=(Option.bind_some _ _).symm.trans H;rw [hy191];with_reducible exact H2_) | (have H2_:=(Option.bind_some _ _).symm.trans H;with_reducible exact H2_) | with_reducible exact H | (rw [hy191];exact H) | exact H
        have Ny191:=Aside0.mk hy191
        clear hy191
        replace H:=Option.bind_eq_some_iff.mp H
        obtain ⟨t194,A180,H⟩:=H
        replace H:(some t194) = some r:=H
        have A18:=Aside0.mk A180
        clear A180
        obtain rfl:=Option.some.inj H
        go_wp2_with (first | ((with_reducible refine gate_builtin (b:=.append) (xs:=#[.tmp 40,.tmp 43]) rfl ?_);at_builtin;refine Kd.R_append (Kd.int .u32) (w0:=w) w.heap.size rfl (.tmp 40) (.tmp 43) 31 78 (.int .u32 0) 4 rfl Try.underlying31 info78 rfl (by decide) (by omega) u5 x5_1 ((x6_1) % 4294967296) [.int .u32 ((x6_1) % 4294967296)] (fun k_ => (w.heap.size≤k_)) (fun _ => False) rfl rfl ?aP (fun _ hk => hk.elim) ?aF ?aO ?aB ?aS ?aL ?_;(case aP => exact rfl);(case aB => exact (vB HB.out));(case aF => exact (fun k_ hk => (Nat.le_trans (below_size (vB HB.out)) hk)));(case aO => exact (vR HO_5.out));(case aS => exact (below_size (vB HB.out)));(case aL => have:=LMc17.out;omega);intro v192 w19 ho hb hg hat;rw [← Ny191.out] at ho;have n0_:=Aside0.mk (hb);have n1_:=Aside0.mk (ho);clear HB;clear HO_5;have HB:=n0_;have HO193:=n1_;clear n0_ n1_;clear ho hb hg hat;obtain ⟨Ao20,co20,eo20⟩:=Kd.R_slice HO193.out;subst eo20) | ((with_reducible refine gate_callee (f:=52) rfl ?_);refine goesL_ (some 45) rfl rfl Try.func52 (by kernel_rfl) rfl #[.slice Ao20 y191.length co20] rfl vA ?_;(with_reducible refine (sconceref03_trim.calls k1 (fun k_ => some k_ = (.slice Ao20 y191.length co20:Value).ownBlock) _ _ y191 t194 _ ?side1 A18.out).mono ?_);(case side1 => exact Kd.R_V (Kd.R_tight rfl (HO193.out)));rintro e w21 ⟨v195,rfl,ho0,hb⟩;refine ⟨_,rfl,?_⟩;have n0_:=Aside0.mk (Kd.R_below (vR HO193.out) hb);have n1_:=Aside0.mk (Kd.V_lower (Kd.V_mono (ok':=fun k_ => (w.heap.size≤k_)) ho0 (fun k_ hk_ => Or.elim hk_ (fun hs_ => ((HO193.out).1 k_ hs_.symm)) (fun hn_ => (Nat.le_trans (below_size (vB HB.out)) hn_)))) (below_size (vB HB.out)));have n2_:=Aside0.mk (below_step (vB HB.out) hb);clear HO193;clear HB;have HO193:=n0_;have HO196:=n1_;have HB:=n2_;clear n0_ n1_ n2_;(try clear hb);(try clear hb2);(try clear hk);(try clear hi);(try clear ho0)))
        go_ret
        exact ⟨_,by first | rfl | (simp [errW_none,errW_some] <;> rfl) | (simp only [← hji3];first | rfl | (simp [errW_none,errW_some] <;> rfl)) | (simp [*,errW_none,errW_some] <;> rfl),by (with_reducible repeat (first | apply Kd.V_alloc | apply Kd.V_drewN | apply Kd.V_drew));exact HO196.out,by repeat (first | (with_reducible first | exact HB.out | apply below_alloc | apply pw_below_drewN | apply below_drew1) | exact HB.out)⟩
       ·
        rw [if_neg c17] at H
        exact absurd H (by simp)
   ·
    rw [if_neg c6] at H
    exact absurd H (by simp)
  ·
   rw [if_neg c5] at H
   exact absurd H (by simp)
 ·
  rw [if_neg c4] at H
  exact absurd H (by simp)
def sconceref03_divSmall.l0:Nat→List Int→Int→List Int→Int→Int→Option (List Int × List Int)
 | 0,_,_,_,_,_ => none
 | k + 1,x0,x1,x6,x7,x8 => if x8 ≥ 0 then (if 0≤x8 then (if x8 < (x0.length:Int) then (if (IntKind.u64.wrap (x1)) = 0 then (none) else (if x8 < (x6.length:Int) then (sconceref03_divSmall.l0 k x0 x1 (x6.set (x8:Int).toNat ((IntKind.u64.wrap (Int.tdiv (Go.bits .or .u64 (IntKind.u64.wrap (x7 * 4294967296)) (IntKind.u64.wrap (rd x0 x8))) (IntKind.u64.wrap (x1)))) % 4294967296)) (Int.tmod (Go.bits .or .u64 (IntKind.u64.wrap (x7 * 4294967296)) (IntKind.u64.wrap (rd x0 x8))) (IntKind.u64.wrap (x1))) (wrap64 (x8 - 1))) else (none))) else (none)) else (none)) else ((sconceref03_trim.f k x6).bind fun t206 => ((sconceref03_Small.f k x7).bind fun t209 => (some (t206,t209))))
def sconceref03_divSmall.f (k:Nat) (l0:List Int) (a1:Int):Option (List Int × List Int):=if 0≤(l0.length:Int) then (if ((l0.length:Int):Int).toNat≤70368744177664 then (sconceref03_divSmall.l0 k l0 a1 (List.replicate ((l0.length:Int):Int).toNat 0) 0 (wrap64 ((l0.length:Int) - 1))) else (none)) else (none)
theorem sconceref03_divSmall.calls (k:Nat) (A0:Option Addr) (c0:Nat) (l0:List Int) (a1:Int) (r1:List Int) (r2:List Int) (w:World) (hr0:Kd.C (Kd.int .u32) w A0 l0.length l0) (hc0:l0.length≤c0) (h:sconceref03_divSmall.f k l0 a1 = some (r1,r2)) :
  Calls Try.prog 102 #[.slice A0 l0.length c0,.int .u32 a1] w fun e w' => ∃ v0_ v1_:Value,e = .returned (.tuple #[v0_,v1_])∧Kd.V (Kd.int .u32) 78 w' w.heap.size (fun k_ => (w.heap.size≤k_)) v0_ r1∧Kd.V (Kd.int .u32) 78 w' w.heap.size (fun k_ => (w.heap.size≤k_)) v1_ r2∧Below w.heap.size w w':=by
 have HR0:=Aside0.mk hr0
 have HC0:=Aside0.mk hc0
 clear hr0 hc0
 have HB:=Aside0.mk (Below.refl w.heap.size w)
 have H:(if 0≤(l0.length:Int) then (if ((l0.length:Int):Int).toNat≤70368744177664 then (sconceref03_divSmall.l0 k l0 a1 (List.replicate ((l0.length:Int):Int).toNat 0) 0 (wrap64 ((l0.length:Int) - 1))) else (none)) else (none)) = some (r1,r2):=h
 clear h
 by_cases c3:0≤(l0.length:Int)
 ·
  rw [if_pos c3] at H
  have c3b0:=eq_true c3
  have c3b1:decide (0≤(l0.length:Int)) = true:=decide_eq_true c3
  clear c3
  by_cases c4:((l0.length:Int):Int).toNat≤70368744177664
  ·
   rw [if_pos c4] at H
   have c4b0:=eq_true c4
   have c4b1:decide (((l0.length:Int):Int).toNat≤70368744177664) = true:=decide_eq_true c4
   clear c4
   obtain ⟨y201,hy201⟩:∃ y_:List Int,y_ = (List.replicate ((l0.length:Int):Int).toNat 0):=⟨_,rfl⟩
   replace H:(sconceref03_divSmall.l0 k l0 a1 y201 0 (wrap64 ((l0.length:Int) - 1))) = some (r1,r2):=by first | (rw [hy201];with_reducible exact H) | (have H2_:=(Option.bind_some _ _).symm.trans H;rw [hy201];with_reducible exact H2_) | (have H2_:=(Option.bind_some _ _).symm.trans H;with_reducible exact H2_) | with_reducible exact H | (rw [hy201];exact H) | exact H
   have Ny201:=Aside0.mk hy201
   clear hy201
   have H':=Aside0.mk H
   clear H
   go_enter Try.func102,Try.ntmps102
   go_wp2_with (first | ((with_reducible refine gate_dst (N:=11) rfl ?_);refine Kd.R_make (Kd.int .u32) _ 78 rfl (N:=11) rfl 31 _ _ rfl (l0.length:Int) rfl rfl Try.underlying31 (.int .u32 0) 4 info78 rfl (by decide) (by omega) 0 (ok:=fun _ => True) (okp:=fun _ => True) rfl (fun _ hk => hk) trivial (of_decide_eq_true vD) (Nat.le_trans (Nat.mul_le_mul_right _ (of_decide_eq_true vD:(l0.length:Int).toNat≤70368744177664)) (by omega)) (Below.refl _ _) (Nat.le_refl _) ?_;intro v202 w5 ho6 hb hg_ hnew_;clear hg_ hnew_;(first | rw [← Ny201.out] at ho6 | (simp only [Int.reduceToNat] at ho6;rw [← Ny201.out] at ho6));have n0_:=Aside0.mk (Kd.R_lower (Kd.R_newM (M:=fun k_ => (w.heap.size≤k_)) ho6 (below_size (vB HB.out)) (fun k_ h_ => h_)) (below_size (vB HB.out)));have n1_:=Aside0.mk (below_step (vB HB.out) hb);clear HB;have HO203:=n0_;have HB:=n1_;clear n0_ n1_;clear hb ho6))
   go_loopg [7,8] k (fun kq v7 v8 w' => ∃ (x6_1:List Int) (x7_1:Int) (x8_1:Int),v7 = .int .u64 x7_1∧v8 = .int .i64 x8_1∧Aside0 (sconceref03_divSmall.l0 kq l0 a1 x6_1 x7_1 x8_1 = some (r1,r2))∧Aside0 (kq≤k)∧Aside0 (Kd.R (Kd.int .u32) 78 w' w.heap.size (fun k_ => (w.heap.size≤k_)) v202 x6_1)∧Aside0 (Below w.heap.size w w'))
   case atStart => exact ⟨(y201),(0),(wrap64 ((l0.length:Int) - 1)),(by first | rfl | (simp;done) | (simp [*];done)),(by first | rfl | (simp;done) | (simp [*];done)),H',⟨Nat.le_refl _⟩,⟨by (with_reducible repeat (first | apply Kd.R_alloc | apply Kd.R_drewN | apply Kd.R_drew));exact Kd.R_mono HO203.out (fun _ hk => hk.1)⟩,⟨by repeat (first | (with_reducible first | exact HB.out | apply below_alloc | apply pw_below_drewN | apply below_drew1) | exact HB.out)⟩⟩
   case round =>
    clear H'
    try clear c1
    try clear p2
    try clear c3
    try clear c3b0
    try clear c3b1
    try clear c4
    try clear c4b0
    try clear c4b1
    try clear p6
    obtain ⟨x6_1,x7_1,x8_1,rfl,rfl,HA,HK1,HO_6,HB⟩:=hrel
    cases gk with
    | zero => exact absurd HA.out (by simp [sconceref03_divSmall.l0])
    | succ k1 =>
     have H:=HA.out
     clear HA
     simp only [sconceref03_divSmall.l0] at H
     by_cases c7:x8_1 ≥ 0
     ·
      rw [if_pos c7] at H
      have c7b0:decide (0≤x8_1) = true:=decide_eq_true c7
      clear c7
      by_cases c8:0≤x8_1
      ·
       rw [if_pos c8] at H
       have c8b0:decide (0≤x8_1) = true:=decide_eq_true c8
       clear c8
       by_cases c9:x8_1 < (l0.length:Int)
       ·
        rw [if_pos c9] at H
        have c9b0:decide (x8_1 < (l0.length:Int)) = true:=decide_eq_true c9
        clear c9
        by_cases c10:(IntKind.u64.wrap (a1)) = 0
        ·
         rw [if_pos c10] at H
         exact absurd H (by simp)
        ·
         rw [if_neg c10] at H
         have c10b0:((IntKind.u64.wrap (a1)) == 0) = false:=beq_eq_false_iff_ne.mpr c10
         have c10b1:((IntKind.u64.wrap (a1)) != 0) = true:=bne_iff_ne.mpr c10
         by_cases c11:x8_1 < (x6_1.length:Int)
         ·
          rw [if_pos c11] at H
          have c11b0:decide (x8_1 < (x6_1.length:Int)) = true:=decide_eq_true c11
          clear c11
          obtain ⟨y205,hy205⟩:∃ y_:List Int,y_ = (x6_1.set (x8_1:Int).toNat ((IntKind.u64.wrap (Int.tdiv (Go.bits .or .u64 (IntKind.u64.wrap (x7_1 * 4294967296)) (IntKind.u64.wrap (rd l0 x8_1))) (IntKind.u64.wrap (a1)))) % 4294967296)):=⟨_,rfl⟩
          replace H:(sconceref03_divSmall.l0 k1 l0 a1 y205 (Int.tmod (Go.bits .or .u64 (IntKind.u64.wrap (x7_1 * 4294967296)) (IntKind.u64.wrap (rd l0 x8_1))) (IntKind.u64.wrap (a1))) (wrap64 (x8_1 - 1))) = some (r1,r2):=by first | (rw [hy205];with_reducible exact H) | (have H2_:=(Option.bind_some _ _).symm.trans H;rw [hy205];with_reducible exact H2_) | (have H2_:=(Option.bind_some _ _).symm.trans H;with_reducible exact H2_) | with_reducible exact H | (rw [hy205];exact H) | exact H
          have Ny205:=Aside0.mk hy205
          clear hy205
          have H':=Aside0.mk H
          clear H
          have p204:0≤(x8_1:Int):=of_decide_eq_true vD
          have q204:x8_1 < (l0.length:Int):=of_decide_eq_true vD
          obtain ⟨ad204,e204,hx204_0⟩:=Kd.at_int HR0.out x8_1 p204 q204
          cases e204
          replace hx204_0:=(HB.out.cell (World.block_lt_of_cell? w _ hx204_0)).trans hx204_0
          replace p204:=eq_true p204
          replace q204:=eq_true q204
          have p12:0≤(x8_1:Int):=of_decide_eq_true vD
          have q12:(x8_1:Int) < ((x6_1.length:Int):Int):=of_decide_eq_true vD
          obtain ⟨go12,co12,eo12,gb12,gl12,cl12,HG12⟩:=Kd.R_form HO_6.out (by omega)
          (first | cases eo12 | (injection eo12 with ea_ en_ ec_;(first | subst ea_ | (injection ea_ with ea_;subst ea_));subst ec_;clear en_))
          have GB12:=Aside0.mk gb12
          have GG12:=Aside0.mk HG12
          clear gb12 gl12 HG12
          obtain ⟨hx12_0,hf12_0⟩:=Kd.R_celln 0 HO_6.out (x8_1:Int) p12 q12
          replace p12:=eq_true p12
          replace q12:=eq_true q12
          have HP13:=Kd.R_putg HO_6.out (x8_1:Int) ((IntKind.u64.wrap (Int.tdiv (Go.bits .or .u64 (IntKind.u64.wrap (x7_1 * 4294967296)) (IntKind.u64.wrap (rd l0 x8_1))) (IntKind.u64.wrap (a1)))) % 4294967296)
          go_wp2_with (first | ((with_reducible refine gate_store (t:=78) (p:=34) rfl ?_);refine store_event (t:=78) (p:=34) (v:=?vo_w14) (w1:=(wr.setCell ⟨go12,(x8_1:Int).toNat,none⟩ (.int .u32 ((IntKind.u64.wrap (Int.tdiv (Go.bits .or .u64 (IntKind.u64.wrap (x7_1 * 4294967296)) (IntKind.u64.wrap (rd l0 x8_1))) (IntKind.u64.wrap (a1)))) % 4294967296)))) ?hg ?ho ?hn ?hr ?_;(case ho => rfl);(case hg => rfl);(case hn => rfl);(case hr => first | (go_simp;done) | (go_simp;rfl));intro w14 hw;have hg:wr.grownBy w14 (some go12):=(by rw [hw];exact HP13.2);have hp_:Kd.R (Kd.int .u32) 78 w14 w.heap.size (fun k_ => (w.heap.size≤k_)) (.slice (some ⟨go12,0,none⟩) x6_1.length co12) y205:=(by rw [hw,Ny205.out];exact HP13.1);clear HP13;have n0_:=Aside0.mk (hp_);have n1_:=Aside0.mk ((by rw [hw];exact below_set (HB.out) GB12.out:Below w.heap.size w w14));clear HO_6;clear HB;have HO_6:=n0_;have HB:=n1_;clear n0_ n1_;clear hg hw hp_))
          go_roundg k1
          case measure => have:=HK1.out;omega
          case rel => exact ⟨(y205),(Int.tmod (Go.bits .or .u64 (IntKind.u64.wrap (x7_1 * 4294967296)) (IntKind.u64.wrap (rd l0 x8_1))) (IntKind.u64.wrap (a1))),(wrap64 (x8_1 - 1)),(by first | rfl | (simp;done) | (simp [*];done)),(by first | rfl | (simp;done) | (simp [*];done)),H',⟨by have:=HK1.out;omega⟩,⟨by (with_reducible repeat (first | apply Kd.R_alloc | apply Kd.R_drewN | apply Kd.R_drew));exact HO_6.out⟩,⟨by repeat (first | (with_reducible first | exact HB.out | apply below_alloc | apply pw_below_drewN | apply below_drew1) | exact HB.out)⟩⟩
         ·
          rw [if_neg c11] at H
          exact absurd H (by simp)
       ·
        rw [if_neg c9] at H
        exact absurd H (by simp)
      ·
       rw [if_neg c8] at H
       exact absurd H (by simp)
     ·
      rw [if_neg c7] at H
      have c7b0:decide (0≤x8_1) = false:=decide_eq_false c7
      clear c7
      replace H:=Option.bind_eq_some_iff.mp H
      obtain ⟨t206,A150,H⟩:=H
      replace H:((sconceref03_Small.f k1 x7_1).bind fun t209 => (some (t206,t209))) = some (r1,r2):=H
      have A15:=Aside0.mk A150
      clear A150
      replace H:=Option.bind_eq_some_iff.mp H
      obtain ⟨t209,A160,H⟩:=H
      replace H:(some (t206,t209)) = some (r1,r2):=H
      have A16:=Aside0.mk A160
      clear A160
      simp only [Option.some.injEq,Prod.mk.injEq] at H
      obtain ⟨rfl,rfl⟩:=H
      obtain ⟨Ao17,co17,eo17⟩:=Kd.R_slice HO_6.out
      subst eo17
      go_wp2_with (first | ((with_reducible refine gate_callee (f:=52) rfl ?_);refine goesL_ (some 40) rfl rfl Try.func52 (by kernel_rfl) rfl #[.slice Ao17 x6_1.length co17] rfl vA ?_;(with_reducible refine (sconceref03_trim.calls k1 (fun k_ => some k_ = (.slice Ao17 x6_1.length co17:Value).ownBlock) _ _ x6_1 t206 _ ?side1 A15.out).mono ?_);(case side1 => exact Kd.R_V (Kd.R_tight rfl (HO_6.out)));rintro e w18 ⟨v207,rfl,ho0,hb⟩;refine ⟨_,rfl,?_⟩;have n0_:=Aside0.mk (Kd.R_below (vR HO_6.out) hb);have n1_:=Aside0.mk (Kd.V_lower (Kd.V_mono (ok':=fun k_ => (w.heap.size≤k_)) ho0 (fun k_ hk_ => Or.elim hk_ (fun hs_ => ((HO_6.out).1 k_ hs_.symm)) (fun hn_ => (Nat.le_trans (below_size (vB HB.out)) hn_)))) (below_size (vB HB.out)));have n2_:=Aside0.mk (below_step (vB HB.out) hb);clear HO_6;clear HB;have HO_6:=n0_;have HO208:=n1_;have HB:=n2_;clear n0_ n1_ n2_;(try clear hb);(try clear hb2);(try clear hk);(try clear hi);(try clear ho0)) | ((with_reducible refine gate_callee (f:=55) rfl ?_);refine goesL_ (some 42) rfl rfl Try.func55 (by kernel_rfl) rfl #[.int .u64 x7_1] rfl vA ?_;(with_reducible refine (sconceref03_Small.calls k1 x7_1 t209 _ A16.out).mono ?_);rintro e w19 ⟨v210,rfl,ho0,hb⟩;refine ⟨_,rfl,?_⟩;have n0_:=Aside0.mk (Kd.R_below (vR HO_6.out) hb);have n1_:=Aside0.mk (Kd.V_below (vV HO208.out) hb);have n2_:=Aside0.mk (Kd.V_lower (Kd.V_mono (ok':=fun k_ => (w.heap.size≤k_)∧some k_≠(.slice Ao17 x6_1.length co17:Value).ownBlock) ho0 (fun k_ hk_ => ⟨(Nat.le_trans (below_size (vB HB.out)) hk_),(Kd.fresh' (Kd.R_lt (vR HO_6.out)) k_ hk_)⟩)) (below_size (vB HB.out)));have n3_:=Aside0.mk (below_step (vB HB.out) hb);clear HO_6;clear HO208;clear HB;have HO_6:=n0_;have HO208:=n1_;have HO211:=n2_;have HB:=n3_;clear n0_ n1_ n2_ n3_;(try clear hb);(try clear hb2);(try clear hk);(try clear hi);(try clear ho0)))
      go_ret2
      exact ⟨_,_,by first | rfl | (simp [errW_none,errW_some] <;> rfl) | (simp [*,errW_none,errW_some] <;> rfl),by (with_reducible repeat (first | apply Kd.V_alloc | apply Kd.V_drewN | apply Kd.V_drew));exact HO208.out,by (with_reducible repeat (first | apply Kd.V_alloc | apply Kd.V_drewN | apply Kd.V_drew));exact Kd.V_mono HO211.out (fun _ hk => hk.1),by repeat (first | (with_reducible first | exact HB.out | apply below_alloc | apply pw_below_drewN | apply below_drew1) | exact HB.out)⟩
  ·
   rw [if_neg c4] at H
   exact absurd H (by simp)
 ·
  rw [if_neg c3] at H
  exact absurd H (by simp)
def sconceref03_Shr.l0:Nat→List Int→Int→List Int→Int→Option (List Int)
 | 0,_,_,_,_ => none
 | k + 1,x0,x1,x5,x6 => if x6 < (x0.length:Int) then (if 0≤x6 then ((sconceref03_digit.f x0 (wrap64 (x6 + 1))).bind fun t213 => (if 0≤(IntKind.u64.wrap (Int.tmod x1 32)) then (if x5.length < 35184372088832 then (sconceref03_Shr.l0 k x0 x1 (x5 ++ [(shr .u64 (Go.bits .or .u64 (IntKind.u64.wrap (rd x0 x6)) (IntKind.u64.wrap ((IntKind.u64.wrap (t213)) * 4294967296))) (IntKind.u64.wrap (Int.tmod x1 32))) % 4294967296]) (wrap64 (x6 + 1))) else (none)) else (none))) else (none)) else ((sconceref03_trim.f k x5).bind fun t217 => (some t217))
def sconceref03_Shr.f (k:Nat) (l0:List Int) (a1:Int):Option (List Int):=sconceref03_Shr.l0 k l0 a1 ([]:List Int) (wrap64 (Int.tdiv a1 32))
theorem sconceref03_Shr.calls (k:Nat) (A0:Option Addr) (c0:Nat) (l0:List Int) (a1:Int) (r:List Int) (w:World) (hr0:Kd.C (Kd.int .u32) w A0 l0.length l0) (hc0:l0.length≤c0) (h:sconceref03_Shr.f k l0 a1 = some r) :
  Calls Try.prog 104 #[.slice A0 l0.length c0,.int .i64 a1] w fun e w' => ∃ v0_:Value,e = .returned (v0_)∧Kd.V (Kd.int .u32) 78 w' w.heap.size (fun k_ => (w.heap.size≤k_)) v0_ r∧Below w.heap.size w w':=by
 have HR0:=Aside0.mk hr0
 have HC0:=Aside0.mk hc0
 clear hr0 hc0
 have HB:=Aside0.mk (Below.refl w.heap.size w)
 have H:(sconceref03_Shr.l0 k l0 a1 ([]:List Int) (wrap64 (Int.tdiv a1 32))) = some r:=h
 clear h
 have H':=Aside0.mk H
 clear H
 go_enter Try.func104,Try.ntmps104
 go_wp2
 repeat (go_quiet (fail);try go_wp2)
 go_loopg [5,6] k (fun kq v5 v6 w' => ∃ (x5_1:List Int) (x6_1:Int),v6 = .int .i64 x6_1∧Aside0 (sconceref03_Shr.l0 kq l0 a1 x5_1 x6_1 = some r)∧Aside0 (kq≤k)∧Aside0 (Kd.R (Kd.int .u32) 78 w' w.heap.size (fun k_ => (w.heap.size≤k_)) v5 x5_1)∧Aside0 (Below w.heap.size w w'))
 case atStart => exact ⟨(([]:List Int)),(wrap64 (Int.tdiv a1 32)),(by first | rfl | (simp;done) | (simp [*];done)),H',⟨Nat.le_refl _⟩,⟨by first | exact Kd.R_nil _ _ _ _ _ | exact Kd.N_nil _ _ _ _ _ | exact Kd.V_nil _ _ _ _ _ | exact Kd.Q_nil _ _ _ _ _ | exact Kd.S_nil _ _ _ _ _⟩,⟨by repeat (first | (with_reducible first | exact HB.out | apply below_alloc | apply pw_below_drewN | apply below_drew1) | exact HB.out)⟩⟩
 case round =>
  clear H'
  try clear c1
  try clear p2
  obtain ⟨x5_1,x6_1,rfl,HA,HK1,HO_5,HB⟩:=hrel
  cases gk with
  | zero => exact absurd HA.out (by simp [sconceref03_Shr.l0])
  | succ k1 =>
   have H:=HA.out
   clear HA
   simp only [sconceref03_Shr.l0] at H
   by_cases c3:x6_1 < (l0.length:Int)
   ·
    rw [if_pos c3] at H
    have c3b0:decide (x6_1 < (l0.length:Int)) = true:=decide_eq_true c3
    clear c3
    by_cases c4:0≤x6_1
    ·
     rw [if_pos c4] at H
     have c4b0:decide (0≤x6_1) = true:=decide_eq_true c4
     clear c4
     replace H:=Option.bind_eq_some_iff.mp H
     obtain ⟨t213,A50,H⟩:=H
     replace H:(if 0≤(IntKind.u64.wrap (Int.tmod a1 32)) then (if x5_1.length < 35184372088832 then (sconceref03_Shr.l0 k1 l0 a1 (x5_1 ++ [(shr .u64 (Go.bits .or .u64 (IntKind.u64.wrap (rd l0 x6_1)) (IntKind.u64.wrap ((IntKind.u64.wrap (t213)) * 4294967296))) (IntKind.u64.wrap (Int.tmod a1 32))) % 4294967296]) (wrap64 (x6_1 + 1))) else (none)) else (none)) = some r:=H
     have A5:=Aside0.mk A50
     clear A50
     obtain ⟨ji6,hji6⟩:∃ j_:Int,(IntKind.u64.wrap (Int.tmod a1 32)) = j_:=⟨_,rfl⟩
     replace H:(if 0≤(ji6) then (if x5_1.length < 35184372088832 then (sconceref03_Shr.l0 k1 l0 a1 (x5_1 ++ [(shr .u64 (Go.bits .or .u64 (IntKind.u64.wrap (rd l0 x6_1)) (IntKind.u64.wrap ((IntKind.u64.wrap (t213)) * 4294967296))) (ji6)) % 4294967296]) (wrap64 (x6_1 + 1))) else (none)) else (none)) = some r:=by first | (rw [hji6] at H;exact H) | (simp only [hji6] at H ⊢;exact H)
     (try rw [hji6] at A5)
     by_cases c7:0≤(ji6)
     ·
      rw [if_pos c7] at H
      have c7b0:=eq_true c7
      have c7b1:decide (0≤(ji6)) = true:=decide_eq_true c7
      clear c7
      obtain ⟨ji8,hji8⟩:∃ j_:Int,(shr .u64 (Go.bits .or .u64 (IntKind.u64.wrap (rd l0 x6_1)) (IntKind.u64.wrap ((IntKind.u64.wrap (t213)) * 4294967296))) (ji6)) = j_:=⟨_,rfl⟩
      replace H:(if x5_1.length < 35184372088832 then (sconceref03_Shr.l0 k1 l0 a1 (x5_1 ++ [(ji8) % 4294967296]) (wrap64 (x6_1 + 1))) else (none)) = some r:=by first | (rw [hji8] at H;exact H) | (simp only [hji8] at H ⊢;exact H)
      (try rw [hji8] at A5)
      have hji8_:((Go.bits .or .u64 (IntKind.u64.wrap (rd l0 x6_1)) (IntKind.u64.wrap ((IntKind.u64.wrap (t213)) * 4294967296))) / 2 ^ min (ji6).toNat 64) = ji8:=hji8
      have hji8z:(ji6)≤64→((Go.bits .or .u64 (IntKind.u64.wrap (rd l0 x6_1)) (IntKind.u64.wrap ((IntKind.u64.wrap (t213)) * 4294967296))) / 2 ^ (ji6).toNat) = ji8:=shr_small hji8
      by_cases c9:x5_1.length < 35184372088832
      ·
       rw [if_pos c9] at H
       have LMc9:=Aside0.mk c9
       clear c9
       obtain ⟨y214,hy214⟩:∃ y_:List Int,y_ = (x5_1 ++ [(ji8) % 4294967296]):=⟨_,rfl⟩
       replace H:(sconceref03_Shr.l0 k1 l0 a1 y214 (wrap64 (x6_1 + 1))) = some r:=by first | (rw [hy214];with_reducible exact H) | (have H2_:=(Option.bind_some _ _).symm.trans H;rw [hy214];with_reducible exact H2_) | (have H2_:=(Option.bind_some _ _).symm.trans H;with_reducible exact H2_) | with_reducible exact H | (rw [hy214];exact H) | exact H
       have Ny214:=Aside0.mk hy214
       clear hy214
       have H':=Aside0.mk H
       clear H
       have p212:0≤(x6_1:Int):=of_decide_eq_true vD
       have q212:x6_1 < (l0.length:Int):=of_decide_eq_true vD
       obtain ⟨ad212,e212,hx212_0⟩:=Kd.at_int HR0.out x6_1 p212 q212
       cases e212
       replace hx212_0:=(HB.out.cell (World.block_lt_of_cell? w _ hx212_0)).trans hx212_0
       replace p212:=eq_true p212
       replace q212:=eq_true q212
       go_wp2_with (first | (go_at_call 53;(with_reducible refine (sconceref03_digit.calls _ _ l0 (wrap64 (x6_1 + 1)) t213 _ ?side1 ?side2 A5.out).mono ?_);(case side1 => repeat (first | exact (Kd.C_below HR0.out HB.out) | (with_reducible refine Kd.C_alloc ?_ _) | (with_reducible refine Kd.C_drewN ?_ _) | (with_reducible refine Kd.C_drew ?_)));(case side2 => exact HC0.out);rintro e w' ⟨rfl,⟨nd,rfl⟩⟩;(try first | exact ⟨rfl,_,World.drewN_drewN _ _ _⟩ | exact ⟨rfl,_,Eq.trans (World.drewN_drewN _ _ _) (congrArg (World.drewN _) (Nat.add_assoc _ _ _))⟩)) | ((with_reducible refine gate_builtin (b:=.append) (xs:=#[.tmp 28,.tmp 35]) rfl ?_);at_builtin;refine Kd.R_append (Kd.int .u32) (w0:=w) w.heap.size rfl (.tmp 28) (.tmp 35) 31 78 (.int .u32 0) 4 rfl Try.underlying31 info78 rfl (by decide) (by omega) u5 x5_1 ((ji8) % 4294967296) [.int .u32 ((ji8) % 4294967296)] (fun k_ => (w.heap.size≤k_)) (fun _ => False) rfl rfl ?aP (fun _ hk => hk.elim) ?aF ?aO ?aB ?aS ?aL ?_;(case aP => exact rfl);(case aB => exact (vB HB.out));(case aF => exact (fun k_ hk => (Nat.le_trans (below_size (vB HB.out)) hk)));(case aO => exact (vR HO_5.out));(case aS => exact (below_size (vB HB.out)));(case aL => have:=LMc9.out;omega);intro v215 w10 ho hb hg hat;rw [← Ny214.out] at ho;have n0_:=Aside0.mk (hb);have n1_:=Aside0.mk (ho);clear HB;clear HO_5;have HB:=n0_;have HO216:=n1_;clear n0_ n1_;clear ho hb hg hat))
       repeat (go_quiet (first | (go_at_call 53;(with_reducible refine (sconceref03_digit.calls _ _ l0 (wrap64 (x6_1 + 1)) t213 _ ?side1 ?side2 A5.out).mono ?_);(case side1 => repeat (first | exact (Kd.C_below HR0.out HB.out) | (with_reducible refine Kd.C_alloc ?_ _) | (with_reducible refine Kd.C_drewN ?_ _) | (with_reducible refine Kd.C_drew ?_)));(case side2 => exact HC0.out);rintro e w' ⟨rfl,⟨nd,rfl⟩⟩;(try first | exact ⟨rfl,_,World.drewN_drewN _ _ _⟩ | exact ⟨rfl,_,Eq.trans (World.drewN_drewN _ _ _) (congrArg (World.drewN _) (Nat.add_assoc _ _ _))⟩)) | ((with_reducible refine gate_builtin (b:=.append) (xs:=#[.tmp 28,.tmp 35]) rfl ?_);at_builtin;refine Kd.R_append (Kd.int .u32) (w0:=w) w.heap.size rfl (.tmp 28) (.tmp 35) 31 78 (.int .u32 0) 4 rfl Try.underlying31 info78 rfl (by decide) (by omega) u5 x5_1 ((ji8) % 4294967296) [.int .u32 ((ji8) % 4294967296)] (fun k_ => (w.heap.size≤k_)) (fun _ => False) rfl rfl ?aP (fun _ hk => hk.elim) ?aF ?aO ?aB ?aS ?aL ?_;(case aP => exact rfl);(case aB => exact (vB HB.out));(case aF => exact (fun k_ hk => (Nat.le_trans (below_size (vB HB.out)) hk)));(case aO => exact (vR HO_5.out));(case aS => exact (below_size (vB HB.out)));(case aL => have:=LMc9.out;omega);intro v215 w10 ho hb hg hat;rw [← Ny214.out] at ho;have n0_:=Aside0.mk (hb);have n1_:=Aside0.mk (ho);clear HB;clear HO_5;have HB:=n0_;have HO216:=n1_;clear n0_ n1_;clear ho hb hg hat));try go_wp2_with (first | (go_at_call 53;(with_reducible refine (sconceref03_digit.calls _ _ l0 (wrap64 (x6_1 + 1)) t213 _ ?side1 ?side2 A5.out).mono ?_);(case side1 => repeat (first | exact (Kd.C_below HR0.out HB.out) | (with_reducible refine Kd.C_alloc ?_ _) | (with_reducible refine Kd.C_drewN ?_ _) | (with_reducible refine Kd.C_drew ?_)));(case side2 => exact HC0.out);rintro e w' ⟨rfl,⟨nd,rfl⟩⟩;(try first | exact ⟨rfl,_,World.drewN_drewN _ _ _⟩ | exact ⟨rfl,_,Eq.trans (World.drewN_drewN _ _ _) (congrArg (World.drewN _) (Nat.add_assoc _ _ _))⟩)) | ((with_reducible refine gate_builtin (b:=.append) (xs:=#[.tmp 28,.tmp 35]) rfl ?_);at_builtin;refine Kd.R_append (Kd.int .u32) (w0:=w) w.heap.size rfl (.tmp 28) (.tmp 35) 31 78 (.int .u32 0) 4 rfl Try.underlying31 info78 rfl (by decide) (by omega) u5 x5_1 ((ji8) % 4294967296) [.int .u32 ((ji8) % 4294967296)] (fun k_ => (w.heap.size≤k_)) (fun _ => False) rfl rfl ?aP (fun _ hk => hk.elim) ?aF ?aO ?aB ?aS ?aL ?_;(case aP => exact rfl);(case aB => exact (vB HB.out));(case aF => exact (fun k_ hk => (Nat.le_trans (below_size (vB HB.out)) hk)));(case aO => exact (vR HO_5.out));(case aS => exact (below_size (vB HB.out)));(case aL => have:=LMc9.out;omega);intro v215 w10 ho hb hg hat;rw [← Ny214.out] at ho;have n0_:=Aside0.mk (hb);have n1_:=Aside0.mk (ho);clear HB;clear HO_5;have HB:=n0_;have HO216:=n1_;clear n0_ n1_;clear ho hb hg hat)))
       go_roundg k1
       case measure => have:=HK1.out;omega
       case rel => exact ⟨(y214),(wrap64 (x6_1 + 1)),(by first | rfl | (simp;done) | (simp [*];done)),H',⟨by have:=HK1.out;omega⟩,⟨by (with_reducible repeat (first | apply Kd.R_alloc | apply Kd.R_drewN | apply Kd.R_drew));exact HO216.out⟩,⟨by repeat (first | (with_reducible first | exact HB.out | apply below_alloc | apply pw_below_drewN | apply below_drew1) | exact HB.out)⟩⟩
      ·
       rw [if_neg c9] at H
       exact absurd H (by simp)
     ·
      rw [if_neg c7] at H
      exact absurd H (by simp)
    ·
     rw [if_neg c4] at H
     exact absurd H (by simp)
   ·
    rw [if_neg c3] at H
    have c3b0:decide (x6_1 < (l0.length:Int)) = false:=decide_eq_false c3
    clear c3
    replace H:=Option.bind_eq_some_iff.mp H
    obtain ⟨t217,A110,H⟩:=H
    replace H:(some t217) = some r:=H
    have A11:=Aside0.mk A110
    clear A110
    obtain rfl:=Option.some.inj H
    obtain ⟨Ao12,co12,eo12⟩:=Kd.R_slice HO_5.out
    subst eo12
    go_wp2_with (first | (go_at_call 52;(with_reducible refine (sconceref03_trim.calls k1 (fun k_ => some k_ = (.slice Ao12 x5_1.length co12:Value).ownBlock) _ _ x5_1 t217 _ ?side1 A11.out).mono ?_);(case side1 => exact Kd.R_V (Kd.R_tight rfl (HO_5.out)));rintro e w13 ⟨v218,rfl,ho0,hb⟩;have n0_:=Aside0.mk (Kd.R_below (vR HO_5.out) hb);have n1_:=Aside0.mk (Kd.V_lower (Kd.V_mono (ok':=fun k_ => (w.heap.size≤k_)) ho0 (fun k_ hk_ => Or.elim hk_ (fun hs_ => ((HO_5.out).1 k_ hs_.symm)) (fun hn_ => (Nat.le_trans (below_size (vB HB.out)) hn_)))) (below_size (vB HB.out)));have n2_:=Aside0.mk (below_step (vB HB.out) hb);clear HO_5;clear HB;have HO_5:=n0_;have HO219:=n1_;have HB:=n2_;clear n0_ n1_ n2_;(try clear hb);(try clear hb2);(try clear hk);(try clear hi);(try clear ho0)))
    repeat (go_quiet (first | (go_at_call 52;(with_reducible refine (sconceref03_trim.calls k1 (fun k_ => some k_ = (.slice Ao12 x5_1.length co12:Value).ownBlock) _ _ x5_1 t217 _ ?side1 A11.out).mono ?_);(case side1 => exact Kd.R_V (Kd.R_tight rfl (HO_5.out)));rintro e w13 ⟨v218,rfl,ho0,hb⟩;have n0_:=Aside0.mk (Kd.R_below (vR HO_5.out) hb);have n1_:=Aside0.mk (Kd.V_lower (Kd.V_mono (ok':=fun k_ => (w.heap.size≤k_)) ho0 (fun k_ hk_ => Or.elim hk_ (fun hs_ => ((HO_5.out).1 k_ hs_.symm)) (fun hn_ => (Nat.le_trans (below_size (vB HB.out)) hn_)))) (below_size (vB HB.out)));have n2_:=Aside0.mk (below_step (vB HB.out) hb);clear HO_5;clear HB;have HO_5:=n0_;have HO219:=n1_;have HB:=n2_;clear n0_ n1_ n2_;(try clear hb);(try clear hb2);(try clear hk);(try clear hi);(try clear ho0)));try go_wp2_with (first | (go_at_call 52;(with_reducible refine (sconceref03_trim.calls k1 (fun k_ => some k_ = (.slice Ao12 x5_1.length co12:Value).ownBlock) _ _ x5_1 t217 _ ?side1 A11.out).mono ?_);(case side1 => exact Kd.R_V (Kd.R_tight rfl (HO_5.out)));rintro e w13 ⟨v218,rfl,ho0,hb⟩;have n0_:=Aside0.mk (Kd.R_below (vR HO_5.out) hb);have n1_:=Aside0.mk (Kd.V_lower (Kd.V_mono (ok':=fun k_ => (w.heap.size≤k_)) ho0 (fun k_ hk_ => Or.elim hk_ (fun hs_ => ((HO_5.out).1 k_ hs_.symm)) (fun hn_ => (Nat.le_trans (below_size (vB HB.out)) hn_)))) (below_size (vB HB.out)));have n2_:=Aside0.mk (below_step (vB HB.out) hb);clear HO_5;clear HB;have HO_5:=n0_;have HO219:=n1_;have HB:=n2_;clear n0_ n1_ n2_;(try clear hb);(try clear hb2);(try clear hk);(try clear hi);(try clear ho0))))
    go_ret
    exact ⟨_,by first | rfl | (simp [errW_none,errW_some] <;> rfl) | (simp [*,errW_none,errW_some] <;> rfl),by (with_reducible repeat (first | apply Kd.V_alloc | apply Kd.V_drewN | apply Kd.V_drew));exact HO219.out,by repeat (first | (with_reducible first | exact HB.out | apply below_alloc | apply pw_below_drewN | apply below_drew1) | exact HB.out)⟩
def sconceref01_One.f (a0:Bool):Option (Int):=if a0 = true then (some 1) else (some 0)
theorem sconceref01_One.calls (a0:Bool) (r:Int) (w:World) (h:sconceref01_One.f a0 = some r) :
  Calls Try.prog 107 #[.bool a0] w fun e w' => e = .returned (.int .u64 r)∧Drawn0 w w':=by
 have H:(if a0 = true then (some 1) else (some 0)) = some r:=h
 clear h
 by_cases c2:a0 = true
 ·
  subst c2
  have H1:(some 1) = some r:=by rw [if_pos rfl] at H;exact H
  clear H
  have H:=H1
  clear H1
  obtain rfl:=Option.some.inj H
  go_enter Try.func107,Try.ntmps107
  go_wp2
  go_ret
  exact ⟨by first | rfl | (simp;done) | (simp [*];done),by repeat (first | exact Drawn0.refl _ | apply Drawn0.step)⟩
 ·
  replace c2:=Bool.eq_false_iff.mpr c2
  subst c2
  have H1:(some 0) = some r:=by rw [if_neg (show ¬ (false = true) by decide)] at H;exact H
  clear H
  have H:=H1
  clear H1
  obtain rfl:=Option.some.inj H
  go_enter Try.func107,Try.ntmps107
  go_wp2
  go_ret
  exact ⟨by first | rfl | (simp;done) | (simp [*];done),by repeat (first | exact Drawn0.refl _ | apply Drawn0.step)⟩
def nat_at.f (l0:List Int) (a1:Int):Option (Int):=if a1 < 0 then (some 0) else (if a1 ≥ (l0.length:Int) then (some 0) else (if 0≤a1 then (if a1 < (l0.length:Int) then (some (rd l0 a1)) else (none)) else (none)))
theorem nat_at.calls (A0:Option Addr) (c0:Nat) (l0:List Int) (a1:Int) (r:Int) (w:World) (hr0:Kd.C (Kd.int .u64) w A0 l0.length l0) (hc0:l0.length≤c0) (h:nat_at.f l0 a1 = some r) :
  Calls Try.prog 116 #[.slice A0 l0.length c0,.int .i64 a1] w fun e w' => e = .returned (.int .u64 r)∧Drawn0 w w':=by
 have HR0:=Aside0.mk hr0
 have HC0:=Aside0.mk hc0
 clear hr0 hc0
 have H:(if a1 < 0 then (some 0) else (if a1 ≥ (l0.length:Int) then (some 0) else (if 0≤a1 then (if a1 < (l0.length:Int) then (some (rd l0 a1)) else (none)) else (none)))) = some r:=h
 clear h
 by_cases c3:a1 < 0
 ·
  rw [if_pos c3] at H
  have c3b0:decide (a1 < 0) = true:=decide_eq_true c3
  clear c3
  obtain rfl:=Option.some.inj H
  go_enter Try.func116,Try.ntmps116
  go_wp2
  go_ret
  exact ⟨by first | rfl | (simp;done) | (simp [*];done),by repeat (first | exact Drawn0.refl _ | apply Drawn0.step)⟩
 ·
  rw [if_neg c3] at H
  have c3b0:decide (a1 < 0) = false:=decide_eq_false c3
  clear c3
  by_cases c4:a1 ≥ (l0.length:Int)
  ·
   rw [if_pos c4] at H
   have c4b0:decide ((l0.length:Int)≤a1) = true:=decide_eq_true c4
   clear c4
   obtain rfl:=Option.some.inj H
   go_enter Try.func116,Try.ntmps116
   go_wp2
   go_ret
   exact ⟨by first | rfl | (simp;done) | (simp [*];done),by repeat (first | exact Drawn0.refl _ | apply Drawn0.step)⟩
  ·
   rw [if_neg c4] at H
   have c4b0:decide ((l0.length:Int)≤a1) = false:=decide_eq_false c4
   clear c4
   by_cases c5:0≤a1
   ·
    rw [if_pos c5] at H
    have c5b0:decide (0≤a1) = true:=decide_eq_true c5
    clear c5
    by_cases c6:a1 < (l0.length:Int)
    ·
     rw [if_pos c6] at H
     have c6b0:decide (a1 < (l0.length:Int)) = true:=decide_eq_true c6
     clear c6
     obtain rfl:=Option.some.inj H
     have p220:0≤(a1:Int):=of_decide_eq_true vD
     have q220:a1 < (l0.length:Int):=of_decide_eq_true vD
     obtain ⟨ad220,e220,hx220_0⟩:=Kd.at_int HR0.out a1 p220 q220
     cases e220
     replace p220:=eq_true p220
     replace q220:=eq_true q220
     go_enter Try.func116,Try.ntmps116
     go_wp2
     go_ret
     exact ⟨by first | rfl | (simp;done) | (simp [*];done),by repeat (first | exact Drawn0.refl _ | apply Drawn0.step)⟩
    ·
     rw [if_neg c6] at H
     exact absurd H (by simp)
   ·
    rw [if_neg c5] at H
    exact absurd H (by simp)
end Go.Proofs.Ytalfniohakahlaa.X
