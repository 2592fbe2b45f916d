/- Texts of the walk and of the plain laws, laid together by a program: X7. -/
import Derived.Test.YtonpekldcnankaaZJ0
import Derived.Test.YtonpekldcnankaaZJ1
import Derived.Test.YtonpekldcnankaaZJ2
import Derived.Test.YtonpekldcnankaaZJ3
import Derived.Test.YtonpekldcnankaaZJ5
import Derived.Test.YtonpekldcnankaaZJ6
import Derived.Test.YtonpekldcnankaaZJ4
import Derived.Test.YtonpekldcnankaaZJ9
import Derived.Test.YtonpekldcnankaaZJ10
import Derived.Test.YtonpekldcnankaaZJ12
import Derived.Test.YtonpekldcnankaaZJ11
set_option maxHeartbeats 8000000
set_option maxRecDepth 100000
namespace Go.Proofs.Ytonpekldcnankaa.X
open Go.RowKit Go.Proofs.YtonpekldcnankaaW.PrintWords Go.Proofs.YtonpekldcnankaaW.PrintLast Go.Proofs.YtonpekldcnankaaW.PrintMore
attribute [local go_sem] max2_int min2_int max_two min_two max_three min_three max_four min_four
set_option linter.unusedVariables false
set_option linter.unusedSimpArgs false
def nat_Bits.f (k:Nat) (l0:List Int):Option (Int):=(nat_least.f k l0).bind fun t190 => (if t190 = 0 then (some 0) else (if 0≤(wrap64 (t190 - 1)) then (if (wrap64 (t190 - 1)) < (l0.length:Int) then ((bits_Len64.f (rd l0 (wrap64 (t190 - 1)))).bind fun t192 => (some (wrap64 ((wrap64 (64 * (wrap64 (t190 - 1)))) + t192)))) else (none)) else (none)))
theorem nat_Bits.calls (k:Nat) (A0:Option Addr) (c0:Nat) (l0:List Int) (r:Int) (w:World) (hr0:Kd.C (Kd.int .u64) w A0 l0.length l0) (hc0:l0.length≤c0) (h:nat_Bits.f k l0 = some r) :
  Calls Try.prog 94 #[.slice A0 l0.length c0] w fun e w' => e = .returned (.int .i64 r)∧Drawn0 w w':=by
 have HR0:=Aside0.mk hr0
 have HC0:=Aside0.mk hc0
 clear hr0 hc0
 have H:((nat_least.f k l0).bind fun t190 => (if t190 = 0 then (some 0) else (if 0≤(wrap64 (t190 - 1)) then (if (wrap64 (t190 - 1)) < (l0.length:Int) then ((bits_Len64.f (rd l0 (wrap64 (t190 - 1)))).bind fun t192 => (some (wrap64 ((wrap64 (64 * (wrap64 (t190 - 1)))) + t192)))) else (none)) else (none)))) = some r:=h
 clear h
 replace H:=Option.bind_eq_some_iff.mp H
 obtain ⟨t190,A20,H⟩:=H
 replace H:(if t190 = 0 then (some 0) else (if 0≤(wrap64 (t190 - 1)) then (if (wrap64 (t190 - 1)) < (l0.length:Int) then ((bits_Len64.f (rd l0 (wrap64 (t190 - 1)))).bind fun t192 => (some (wrap64 ((wrap64 (64 * (wrap64 (t190 - 1)))) + t192)))) else (none)) else (none))) = some r:=H
 have A2:=Aside0.mk A20
 clear A20
 by_cases c3:t190 = 0
 ·
  rw [if_pos c3] at H
  have c3b0:(t190 == 0) = true:=beq_iff_eq.mpr c3
  have c3b1:(t190 != 0) = false:=bne_eq_false_iff_eq.mpr c3
  clear c3
  obtain rfl:=Option.some.inj H
  go_enter Try.func94,Try.ntmps94
  go_wp2_with (first | ((with_reducible refine gate_callee (f:=127) rfl ?_);refine goesL_ (some 5) rfl rfl Try.func127 (by kernel_rfl) rfl #[.slice A0 l0.length c0] rfl vA ?_;(with_reducible refine (nat_least.calls k _ _ l0 t190 _ ?side1 ?side2 A2.out).mono ?_);(case side1 => repeat (first | exact HR0.out | (with_reducible refine Kd.C_alloc ?_ _) | (with_reducible refine Kd.C_drewN ?_ _) | (with_reducible refine Kd.C_drew ?_)));(case side2 => exact HC0.out);rintro e w' ⟨rfl,⟨nd,rfl⟩⟩;refine ⟨_,rfl,?_⟩))
  go_ret
  exact ⟨by first | rfl | (simp;done) | (simp [*];done),by repeat (first | exact Drawn0.refl _ | apply Drawn0.step)⟩
 ·
  rw [if_neg c3] at H
  have c3b0:(t190 == 0) = false:=beq_eq_false_iff_ne.mpr c3
  have c3b1:(t190 != 0) = true:=bne_iff_ne.mpr c3
  obtain ⟨ji4,hji4⟩:∃ j_:Int,(wrap64 (t190 - 1)) = j_:=⟨_,rfl⟩
  replace H:(if 0≤(ji4) then (if (ji4) < (l0.length:Int) then ((bits_Len64.f (rd l0 (ji4))).bind fun t192 => (some (wrap64 ((wrap64 (64 * (ji4))) + t192)))) else (none)) else (none)) = some r:=by first | (rw [hji4] at H;exact H) | (simp only [hji4] at H ⊢;exact H)
  (try rw [hji4] at A2)
  have hji4w:(IntKind.i64.wrap (t190 - 1)) = ji4:=(i64_w _).trans hji4
  by_cases c5:0≤(ji4)
  ·
   rw [if_pos c5] at H
   have c5b0:decide (0≤(ji4)) = true:=decide_eq_true c5
   clear c5
   by_cases c6:(ji4) < (l0.length:Int)
   ·
    rw [if_pos c6] at H
    have c6b0:decide ((ji4) < (l0.length:Int)) = true:=decide_eq_true c6
    clear c6
    replace H:=Option.bind_eq_some_iff.mp H
    obtain ⟨t192,A70,H⟩:=H
    replace H:(some (wrap64 ((wrap64 (64 * (ji4))) + t192))) = some r:=H
    have A7:=Aside0.mk A70
    clear A70
    obtain rfl:=Option.some.inj H
    go_enter Try.func94,Try.ntmps94
    go_wp2_with (first | ((with_reducible refine gate_callee (f:=127) rfl ?_);refine goesL_ (some 5) rfl rfl Try.func127 (by kernel_rfl) rfl #[.slice A0 l0.length c0] rfl vA ?_;(with_reducible refine (nat_least.calls k _ _ l0 t190 _ ?side1 ?side2 A2.out).mono ?_);(case side1 => repeat (first | exact HR0.out | (with_reducible refine Kd.C_alloc ?_ _) | (with_reducible refine Kd.C_drewN ?_ _) | (with_reducible refine Kd.C_drew ?_)));(case side2 => exact HC0.out);rintro e w' ⟨rfl,⟨nd,rfl⟩⟩;refine ⟨_,rfl,?_⟩;have p191:0≤((ji4):Int):=of_decide_eq_true vD;have q191:(ji4) < (l0.length:Int):=of_decide_eq_true vD;obtain ⟨ad191,e191,hx191_0⟩:=Kd.at_int HR0.out (ji4) p191 q191;cases e191;replace p191:=eq_true p191;replace q191:=eq_true q191) | ((with_reducible refine gate_callee (f:=128) rfl ?_);refine goesL_ (some 16) rfl rfl Try.func128 (by kernel_rfl) rfl #[.int .u64 (rd l0 (ji4))] rfl (by (try simp only [List.map_toArray,List.map_cons,List.map_nil]);first | done | (simp only [hji4];rfl) | rfl | (simp only [List.length_drop,List.length_take];rfl)) ?_;(with_reducible refine (bits_Len64.calls (rd l0 (ji4)) t192 _ A7.out).mono ?_);rintro e w' ⟨rfl,⟨nd,rfl⟩⟩;refine ⟨_,rfl,?_⟩))
    go_ret
    exact ⟨by first | rfl | (simp;done) | (simp only [← hji4] <;> (first | rfl | simp)) | (simp [*];done),by repeat (first | exact Drawn0.refl _ | apply Drawn0.step)⟩
   ·
    rw [if_neg c6] at H
    exact absurd H (by simp)
  ·
   rw [if_neg c5] at H
   exact absurd H (by simp)
def sconceref03_Shl.l0:Nat→Int→List Int→Int→List Int→Int→Int→Option (List Int)
 | 0,_,_,_,_,_,_ => none
 | k + 1,x1,x5,x6,x18,x19,x20 => if x20 < x19 then (if 0≤x20 then (if x20 < (x18.length:Int) then (if 0≤(IntKind.u64.wrap (Int.tmod x1 32)) then (if x5.length < 35184372088832 then (sconceref03_Shl.l0 k x1 (x5 ++ [(Go.bits .or .u64 x6 (shl .u64 (IntKind.u64.wrap (rd x18 x20)) (IntKind.u64.wrap (Int.tmod x1 32)))) % 4294967296]) ((Go.bits .or .u64 x6 (shl .u64 (IntKind.u64.wrap (rd x18 x20)) (IntKind.u64.wrap (Int.tmod x1 32)))) / 4294967296) x18 x19 (wrap64 (x20 + 1))) else (none)) else (none)) else (none)) else (none)) else (if x5.length < 35184372088832 then ((sconceref03_trim.f k (x5 ++ [(x6) % 4294967296])).bind fun t203 => (some t203)) else (none))
def sconceref03_Shl.f (k:Nat) (l0:List Int) (a1:Int):Option (List Int):=if 0≤(wrap64 (Int.tdiv a1 32)) then (if (wrap64 (Int.tdiv a1 32))≤(wrap64 ((wrap64 ((wrap64 (Int.tdiv a1 32)) + (l0.length:Int))) + 1)) then (if (wrap64 ((wrap64 ((wrap64 (Int.tdiv a1 32)) + (l0.length:Int))) + 1):Int).toNat≤70368744177664 then (sconceref03_Shl.l0 k a1 (List.replicate (wrap64 (Int.tdiv a1 32):Int).toNat 0) 0 l0 (l0.length:Int) 0) else (none)) else (none)) else (none)
theorem sconceref03_Shl.mono_l:∀ k,(∀ y0 y1 y2 y3 y4 y5,LeO (sconceref03_Shl.l0 k y0 y1 y2 y3 y4 y5) (sconceref03_Shl.l0 (k + 1) y0 y1 y2 y3 y4 y5))
 | 0 => fun _ _ _ _ _ _ r h => by simp [sconceref03_Shl.l0] at h
 | k + 1 => by
  have ih0:=sconceref03_Shl.mono_l k
  ·
   intro y0 y1 y2 y3 y4 y5
   unfold sconceref03_Shl.l0
   repeat' first
   | (with_reducible exact ih0 _ _ _ _ _ _)
   | (with_reducible exact sconceref03_trim.mono _ _)
   | (with_reducible exact LeO.refl _)
   | (with_reducible exact LeO.none _)
   | (with_reducible refine LeO.ite ?_ ?_)
   | (with_reducible refine LeO.bind ?_ (fun _ => ?_))
   | exact ih0 _ _ _ _ _ _
   | exact sconceref03_trim.mono _ _
   | exact LeO.none _
   | refine LeO.ite ?_ ?_
   | refine LeO.bind ?_ (fun _ => ?_)
theorem sconceref03_Shl.mono:∀ a0 a1 k,LeO (sconceref03_Shl.f k a0 a1) (sconceref03_Shl.f (k + 1) a0 a1):=by
 intro a0 a1 k
 have ih0:=sconceref03_Shl.mono_l k
 unfold sconceref03_Shl.f
 repeat' first
   | (with_reducible exact ih0 _ _ _ _ _ _)
   | (with_reducible exact sconceref03_trim.mono _ _)
   | (with_reducible exact LeO.refl _)
   | (with_reducible exact LeO.none _)
   | (with_reducible refine LeO.ite ?_ ?_)
   | (with_reducible refine LeO.bind ?_ (fun _ => ?_))
   | exact ih0 _ _ _ _ _ _
   | exact sconceref03_trim.mono _ _
   | exact LeO.none _
   | refine LeO.ite ?_ ?_
   | refine LeO.bind ?_ (fun _ => ?_)
theorem sconceref03_Shl.calls (k:Nat) (A0:Option Addr) (c0:Nat) (l0:List Int) (a1:Int) (r:List Int) (w:World) (hr0:Kd.C (Kd.int .u32) w A0 l0.length l0) (hc0:l0.length≤c0) (h:sconceref03_Shl.f k l0 a1 = some r) :
  Calls Try.prog 102 #[.slice A0 l0.length c0,.int .i64 a1] w fun e w' => ∃ v0_:Value,e = .returned (v0_)∧Kd.V (Kd.int .u32) 83 w' w.heap.size (fun k_ => (w.heap.size≤k_)) v0_ r∧Below w.heap.size w w':=by
 have HR0:=Aside0.mk hr0
 have HC0:=Aside0.mk hc0
 clear hr0 hc0
 have HB:=Aside0.mk (Below.refl w.heap.size w)
 have H:(if 0≤(wrap64 (Int.tdiv a1 32)) then (if (wrap64 (Int.tdiv a1 32))≤(wrap64 ((wrap64 ((wrap64 (Int.tdiv a1 32)) + (l0.length:Int))) + 1)) then (if (wrap64 ((wrap64 ((wrap64 (Int.tdiv a1 32)) + (l0.length:Int))) + 1):Int).toNat≤70368744177664 then (sconceref03_Shl.l0 k a1 (List.replicate (wrap64 (Int.tdiv a1 32):Int).toNat 0) 0 l0 (l0.length:Int) 0) else (none)) else (none)) else (none)) = some r:=h
 clear h
 obtain ⟨ji3,hji3⟩:∃ j_:Int,(wrap64 (Int.tdiv a1 32)) = j_:=⟨_,rfl⟩
 replace H:(if 0≤(ji3) then (if (ji3)≤(wrap64 ((wrap64 ((ji3) + (l0.length:Int))) + 1)) then (if (wrap64 ((wrap64 ((ji3) + (l0.length:Int))) + 1):Int).toNat≤70368744177664 then (sconceref03_Shl.l0 k a1 (List.replicate (ji3:Int).toNat 0) 0 l0 (l0.length:Int) 0) else (none)) else (none)) else (none)) = some r:=by first | (rw [hji3] at H;exact H) | (simp only [hji3] at H ⊢;exact H)
 have hji3w:(IntKind.i64.wrap (Int.tdiv a1 32)) = ji3:=(i64_w _).trans hji3
 by_cases c4:0≤(ji3)
 ·
  rw [if_pos c4] at H
  have c4b0:=eq_true c4
  have c4b1:decide (0≤(ji3)) = true:=decide_eq_true c4
  clear c4
  by_cases c5:(ji3)≤(wrap64 ((wrap64 ((ji3) + (l0.length:Int))) + 1))
  ·
   rw [if_pos c5] at H
   have c5b0:=eq_true c5
   have c5b1:decide ((ji3)≤(wrap64 ((wrap64 ((ji3) + (l0.length:Int))) + 1))) = true:=decide_eq_true c5
   by_cases c6:(wrap64 ((wrap64 ((ji3) + (l0.length:Int))) + 1):Int).toNat≤70368744177664
   ·
    rw [if_pos c6] at H
    have c6b0:=eq_true c6
    have c6b1:decide ((wrap64 ((wrap64 ((ji3) + (l0.length:Int))) + 1):Int).toNat≤70368744177664) = true:=decide_eq_true c6
    obtain ⟨y193,hy193⟩:∃ y_:List Int,y_ = (List.replicate (ji3:Int).toNat 0):=⟨_,rfl⟩
    replace H:(sconceref03_Shl.l0 k a1 y193 0 l0 (l0.length:Int) 0) = some r:=by first | (rw [hy193];with_reducible exact H) | (have H2_:=(Option.bind_some _ _).symm.trans H;rw [hy193];with_reducible exact H2_) | (have H2_:=(Option.bind_some _ _).symm.trans H;with_reducible exact H2_) | with_reducible exact H | (rw [hy193];exact H) | exact H
    have Ny193:=Aside0.mk hy193
    clear hy193
    have H':=Aside0.mk H
    clear H
    go_enter Try.func102,Try.ntmps102
    go_wp2_with (first | ((with_reducible refine gate_dst (N:=17) rfl ?_);refine R_makec .u32 _ 83 rfl (N:=17) rfl 48 _ _ rfl ji3 (wrap64 ((wrap64 ((ji3) + (l0.length:Int))) + 1)) rfl rfl Try.underlying48 4 info83 (by omega) (ok:=fun _ => True) trivial (of_decide_eq_true vD) (of_decide_eq_true vD) (Nat.le_trans (Nat.mul_le_mul_right _ (of_decide_eq_true vD:(wrap64 ((wrap64 ((ji3) + (l0.length:Int))) + 1)).toNat≤70368744177664)) (by omega)) (Below.refl _ _) (Nat.le_refl _) ?_;intro v194 w7 ho8 hb hg_ hnew_;clear hg_ hnew_;(first | rw [← Ny193.out] at ho8 | (simp only [Int.reduceToNat] at ho8;rw [← Ny193.out] at ho8));have n0_:=Aside0.mk (Kd.R_lower (Kd.R_newM (M:=fun k_ => (w.heap.size≤k_)) ho8 (below_size (vB HB.out)) (fun k_ h_ => h_)) (below_size (vB HB.out)));have n1_:=Aside0.mk (below_step (vB HB.out) hb);clear HB;have HO195:=n0_;have HB:=n1_;clear n0_ n1_;clear hb ho8))
    go_loopg [5,6,20] k (fun kq v5 v6 v20 w' => ∃ (x5_1:List Int) (x6_1:Int) (x20_1:Int),v6 = .int .u64 x6_1∧v20 = .int .i64 x20_1∧Aside0 (sconceref03_Shl.l0 kq a1 x5_1 x6_1 l0 (l0.length:Int) x20_1 = some r)∧Aside0 (kq≤k)∧Aside0 (Kd.R (Kd.int .u32) 83 w' w.heap.size (fun k_ => (w.heap.size≤k_)) v5 x5_1)∧Aside0 (Below w.heap.size w w'))
    case atStart => exact ⟨(y193),(0),(0),(by first | rfl | (simp;done) | (simp [*];done)),(by first | rfl | (simp;done) | (simp [*];done)),H',⟨Nat.le_refl _⟩,⟨by (with_reducible repeat (first | apply Kd.R_alloc | apply Kd.R_drewN | apply Kd.R_drew));exact Kd.R_mono HO195.out (fun _ hk => hk.1)⟩,⟨by repeat (first | (with_reducible first | exact HB.out | apply below_alloc | apply pw_below_drewN | apply below_drew1) | exact HB.out)⟩⟩
    case round =>
     clear H'
     try clear c1
     try clear p2
     try clear c4
     try clear c4b0
     try clear c4b1
     try clear c5
     try clear c5b0
     try clear c5b1
     try clear c6
     try clear c6b0
     try clear c6b1
     try clear p6
     obtain ⟨x5_1,x6_1,x20_1,rfl,rfl,HA,HK1,HO_5,HB⟩:=hrel
     cases gk with
     | zero => exact absurd HA.out (by simp [sconceref03_Shl.l0])
     | succ k1 =>
      have H:=HA.out
      clear HA
      simp only [sconceref03_Shl.l0] at H
      by_cases c9:x20_1 < (l0.length:Int)
      ·
       rw [if_pos c9] at H
       have c9b0:decide (x20_1 < (l0.length:Int)) = true:=decide_eq_true c9
       clear c9
       by_cases c10:0≤x20_1
       ·
        rw [if_pos c10] at H
        have c10b0:decide (0≤x20_1) = true:=decide_eq_true c10
        clear c10
        by_cases c11:x20_1 < (l0.length:Int)
        ·
         rw [if_pos c11] at H
         have c11b0:decide (x20_1 < (l0.length:Int)) = true:=decide_eq_true c11
         clear c11
         obtain ⟨ji12,hji12⟩:∃ j_:Int,(IntKind.u64.wrap (Int.tmod a1 32)) = j_:=⟨_,rfl⟩
         replace H:(if 0≤(ji12) then (if x5_1.length < 35184372088832 then (sconceref03_Shl.l0 k1 a1 (x5_1 ++ [(Go.bits .or .u64 x6_1 (shl .u64 (IntKind.u64.wrap (rd l0 x20_1)) (ji12))) % 4294967296]) ((Go.bits .or .u64 x6_1 (shl .u64 (IntKind.u64.wrap (rd l0 x20_1)) (ji12))) / 4294967296) l0 (l0.length:Int) (wrap64 (x20_1 + 1))) else (none)) else (none)) = some r:=by first | (rw [hji12] at H;exact H) | (simp only [hji12] at H ⊢;exact H)
         by_cases c13:0≤(ji12)
         ·
          rw [if_pos c13] at H
          have c13b0:=eq_true c13
          have c13b1:decide (0≤(ji12)) = true:=decide_eq_true c13
          clear c13
          obtain ⟨ji14,hji14⟩:∃ j_:Int,(shl .u64 (IntKind.u64.wrap (rd l0 x20_1)) (ji12)) = j_:=⟨_,rfl⟩
          replace H:(if x5_1.length < 35184372088832 then (sconceref03_Shl.l0 k1 a1 (x5_1 ++ [(Go.bits .or .u64 x6_1 (ji14)) % 4294967296]) ((Go.bits .or .u64 x6_1 (ji14)) / 4294967296) l0 (l0.length:Int) (wrap64 (x20_1 + 1))) else (none)) = some r:=by first | (rw [hji14] at H;exact H) | (simp only [hji14] at H ⊢;exact H)
          have hji14_:(IntKind.u64.wrap ((IntKind.u64.wrap (rd l0 x20_1)) * 2 ^ min (ji12).toNat 64)) = ji14:=hji14
          have hji14z:(ji12)≤64→(IntKind.u64.wrap ((IntKind.u64.wrap (rd l0 x20_1)) * 2 ^ (ji12).toNat)) = ji14:=shl_small hji14
          by_cases c15:x5_1.length < 35184372088832
          ·
           rw [if_pos c15] at H
           have LMc15:=Aside0.mk c15
           clear c15
           obtain ⟨y197,hy197⟩:∃ y_:List Int,y_ = (x5_1 ++ [(Go.bits .or .u64 x6_1 (ji14)) % 4294967296]):=⟨_,rfl⟩
           replace H:(sconceref03_Shl.l0 k1 a1 y197 ((Go.bits .or .u64 x6_1 (ji14)) / 4294967296) l0 (l0.length:Int) (wrap64 (x20_1 + 1))) = some r:=by first | (rw [hy197];with_reducible exact H) | (have H2_:=(Option.bind_some _ _).symm.trans H;rw [hy197];with_reducible exact H2_) | (have H2_:=(Option.bind_some _ _).symm.trans H;with_reducible exact H2_) | with_reducible exact H | (rw [hy197];exact H) | exact H
           have Ny197:=Aside0.mk hy197
           clear hy197
           have H':=Aside0.mk H
           clear H
           have p196:0≤(x20_1:Int):=of_decide_eq_true vD
           have q196:x20_1 < (l0.length:Int):=of_decide_eq_true vD
           obtain ⟨ad196,e196,hx196_0⟩:=Kd.at_int HR0.out x20_1 p196 q196
           cases e196
           replace hx196_0:=(HB.out.cell (World.block_lt_of_cell? w _ hx196_0)).trans hx196_0
           replace p196:=eq_true p196
           replace q196:=eq_true q196
           go_wp2_with (first | ((with_reducible refine gate_builtin (b:=.append) (xs:=#[.tmp 32,.tmp 35]) rfl ?_);at_builtin;refine Kd.R_append (Kd.int .u32) (w0:=w) w.heap.size rfl (.tmp 32) (.tmp 35) 48 83 (.int .u32 0) 4 rfl Try.underlying48 info83 rfl (by decide) (by omega) u5 x5_1 ((Go.bits .or .u64 x6_1 (ji14)) % 4294967296) [.int .u32 ((Go.bits .or .u64 x6_1 (ji14)) % 4294967296)] (fun k_ => (w.heap.size≤k_)) (fun _ => False) rfl rfl ?aP (fun _ hk => hk.elim) ?aF ?aO ?aB ?aS ?aL ?_;(case aP => exact rfl);(case aB => exact (vB HB.out));(case aF => exact (fun k_ hk => (Nat.le_trans (below_size (vB HB.out)) hk)));(case aO => exact (vR HO_5.out));(case aS => exact (below_size (vB HB.out)));(case aL => have:=LMc15.out;omega);intro v198 w16 ho hb hg hat;rw [← Ny197.out] at ho;have n0_:=Aside0.mk (hb);have n1_:=Aside0.mk (ho);clear HB;clear HO_5;have HB:=n0_;have HO199:=n1_;clear n0_ n1_;clear ho hb hg hat))
           go_roundg k1
           case measure => have:=HK1.out;omega
           case rel => exact ⟨(y197),((Go.bits .or .u64 x6_1 (ji14)) / 4294967296),(wrap64 (x20_1 + 1)),(by first | rfl | (simp;done) | (simp only [← hji14] <;> (first | rfl | simp)) | (simp [*];done)),(by first | rfl | (simp;done) | (simp [*];done)),H',⟨by have:=HK1.out;omega⟩,⟨by (with_reducible repeat (first | apply Kd.R_alloc | apply Kd.R_drewN | apply Kd.R_drew));exact HO199.out⟩,⟨by repeat (first | (with_reducible first | exact HB.out | apply below_alloc | apply pw_below_drewN | apply below_drew1) | exact HB.out)⟩⟩
          ·
           rw [if_neg c15] at H
           exact absurd H (by simp)
         ·
          rw [if_neg c13] at H
          exact absurd H (by simp)
        ·
         rw [if_neg c11] at H
         exact absurd H (by simp)
       ·
        rw [if_neg c10] at H
        exact absurd H (by simp)
      ·
       rw [if_neg c9] at H
       have c9b0:decide (x20_1 < (l0.length:Int)) = false:=decide_eq_false c9
       clear c9
       by_cases c17:x5_1.length < 35184372088832
       ·
        rw [if_pos c17] at H
        have LMc17:=Aside0.mk c17
        clear c17
        obtain ⟨y200,hy200⟩:∃ y_:List Int,y_ = (x5_1 ++ [(x6_1) % 4294967296]):=⟨_,rfl⟩
        replace H:((sconceref03_trim.f k1 y200).bind fun t203 => (some t203)) = some r:=by first | (rw [hy200];with_reducible exact H) | (have H2_:=(Option.bind_some _ _).symm.trans H;rw [hy200];with_reducible exact H2_) | (have H2_:=(Option.bind_some _ _).symm.trans H;with_reducible exact H2_) | with_reducible exact H | (rw [hy200];exact H) | exact H
        have Ny200:=Aside0.mk hy200
        clear hy200
        replace H:=Option.bind_eq_some_iff.mp H
        obtain ⟨t203,A180,H⟩:=H
        replace H:(some t203) = some r:=H
        have A18:=Aside0.mk A180
        clear A180
        obtain rfl:=Option.some.inj H
        go_wp2_with (first | ((with_reducible refine gate_builtin (b:=.append) (xs:=#[.tmp 40,.tmp 43]) rfl ?_);at_builtin;refine Kd.R_append (Kd.int .u32) (w0:=w) w.heap.size rfl (.tmp 40) (.tmp 43) 48 83 (.int .u32 0) 4 rfl Try.underlying48 info83 rfl (by decide) (by omega) u5 x5_1 ((x6_1) % 4294967296) [.int .u32 ((x6_1) % 4294967296)] (fun k_ => (w.heap.size≤k_)) (fun _ => False) rfl rfl ?aP (fun _ hk => hk.elim) ?aF ?aO ?aB ?aS ?aL ?_;(case aP => exact rfl);(case aB => exact (vB HB.out));(case aF => exact (fun k_ hk => (Nat.le_trans (below_size (vB HB.out)) hk)));(case aO => exact (vR HO_5.out));(case aS => exact (below_size (vB HB.out)));(case aL => have:=LMc17.out;omega);intro v201 w19 ho hb hg hat;rw [← Ny200.out] at ho;have n0_:=Aside0.mk (hb);have n1_:=Aside0.mk (ho);clear HB;clear HO_5;have HB:=n0_;have HO202:=n1_;clear n0_ n1_;clear ho hb hg hat;obtain ⟨Ao20,co20,eo20⟩:=Kd.R_slice HO202.out;subst eo20) | ((with_reducible refine gate_callee (f:=85) rfl ?_);refine goesL_ (some 45) rfl rfl Try.func85 (by kernel_rfl) rfl #[.slice Ao20 y200.length co20] rfl vA ?_;(with_reducible refine (sconceref03_trim.calls k1 (fun k_ => some k_ = (.slice Ao20 y200.length co20:Value).ownBlock) _ _ y200 t203 _ ?side1 A18.out).mono ?_);(case side1 => exact Kd.R_V (Kd.R_tight rfl (HO202.out)));rintro e w21 ⟨v204,rfl,ho0,hb⟩;refine ⟨_,rfl,?_⟩;have n0_:=Aside0.mk (Kd.R_below (vR HO202.out) hb);have n1_:=Aside0.mk (Kd.V_lower (Kd.V_mono (ok':=fun k_ => (w.heap.size≤k_)) ho0 (fun k_ hk_ => Or.elim hk_ (fun hs_ => ((HO202.out).1 k_ hs_.symm)) (fun hn_ => (Nat.le_trans (below_size (vB HB.out)) hn_)))) (below_size (vB HB.out)));have n2_:=Aside0.mk (below_step (vB HB.out) hb);clear HO202;clear HB;have HO202:=n0_;have HO205:=n1_;have HB:=n2_;clear n0_ n1_ n2_;(try clear hb);(try clear hb2);(try clear hk);(try clear hi);(try clear ho0)))
        go_ret
        exact ⟨_,by first | rfl | (simp [errW_none,errW_some] <;> rfl) | (simp only [← hji3];first | rfl | (simp [errW_none,errW_some] <;> rfl)) | (simp [*,errW_none,errW_some] <;> rfl),by (with_reducible repeat (first | apply Kd.V_alloc | apply Kd.V_drewN | apply Kd.V_drew));exact HO205.out,by repeat (first | (with_reducible first | exact HB.out | apply below_alloc | apply pw_below_drewN | apply below_drew1) | exact HB.out)⟩
       ·
        rw [if_neg c17] at H
        exact absurd H (by simp)
   ·
    rw [if_neg c6] at H
    exact absurd H (by simp)
  ·
   rw [if_neg c5] at H
   exact absurd H (by simp)
 ·
  rw [if_neg c4] at H
  exact absurd H (by simp)
theorem limbs_Left_1 (x y k:Int) (bk:Nat) (w:World) (hx0:0≤x) (hk:w.heap[bk]? = some (.cells #[.int .u64 k] 24 (0,0))) :
  Calls Try.prog 159 #[.int .u64 x,.int .u64 y,.pointer (some ⟨bk,0,none⟩)] w fun e w' => e = .returned (.int .u64 (Go.bits .or .u64 (IntKind.u64.wrap (x * 2)) k))∧Upd w w' bk (.int .u64 (x / 9223372036854775808)) 24:=by
 have ck:=cell_of_one hk
 have fk:=free_of_one hk
 have HK:=Aside0.mk hk
 clear hk
 go_enter Try.func159,Try.ntmps159
 go_wp2
 go_ret
 exact ⟨rfl,Upd.put HK.out 0 _⟩
theorem limbs_each_Left (n:Nat) (A1 A2:Option Addr) (c1 c2:Nat) (l1 l2:List Int) (bk:Nat) (D cy:Nat→Int) (w0 w:World)
  (hr1:Kd.C (Kd.int .u64) w0 A1 l1.length l1) (hc1:l1.length≤c1) (hr2:Kd.C (Kd.int .u64) w0 A2 l2.length l2) (hc2:l2.length≤c2)
  (hn:(if l1.length < l2.length then (l2.length:Int) else (l1.length:Int)) = (n:Int)) (hn2:n≤35184372088832)
  (hB:Below w0.heap.size w0 w) (hbk:w0.heap.size≤bk) (hk:w.heap[bk]? = some (.cells #[.int .u64 (cy 0)] 24 (0,0)))
  (hst:∀ i,i < n→∀ W:World,W.heap[bk]? = some (.cells #[.int .u64 (cy i)] 24 (0,0)) →
   Calls Try.prog 159 #[.int .u64 (Ma.at0 l1 i),.int .u64 (Ma.at0 l2 i),.pointer (some ⟨bk,0,none⟩)] W fun e W' => e = .returned (.int .u64 (D i))∧Upd W W' bk (.int .u64 (cy (i + 1))) 24) :
  Calls Try.prog 142 #[.pointer none,.slice A1 l1.length c1,.slice A2 l2.length c2,.func (.func 159) #[] #[.pointer (some ⟨bk,0,none⟩)]] w fun e w' =>
   ∃ v,e = .returned v∧Kd.R (Kd.int .u64) 24 w' w.heap.size (fun _ => True) v (Ma.mk D n)∧Below w0.heap.size w0 w'∧w'.heap[bk]? = some (.cells #[.int .u64 (cy n)] 24 (0,0)):=by
 have HR1:=Aside0.mk hr1
 have HR2:=Aside0.mk hr2
 have HK:=Aside0.mk hk
 have HB:=Aside0.mk hB
 have HST:=Aside0.mk hst
 have lbk:=blk_lt hk
 clear hr1 hr2 hk hB hst
 go_enter Try.func142,Try.ntmps142
 go_wp2_with (first
  | (go_at_call 145;refine (trace_Trace_Span.calls _ _ rfl).mono ?_;rintro e w1 ⟨rfl,hb1⟩)
  | ((with_reducible refine gate_dst (N:=21) rfl ?_);refine Kd.R_make (Kd.int .u64) _ 24 rfl (N:=21) rfl 23 _ _ rfl (n:Int) rfl rfl Try.underlying23 (.int .u64 0) 8 info24 rfl (by decide) (by omega) 0 (ok:=fun k_ => w.heap.size≤k_) (okp:=fun k_ => w.heap.size≤k_) rfl (fun _ hk => hk) hb1.size (by omega) (by simp only [Int.toNat_natCast];omega) (Below.refl _ _) (Nat.le_refl _) ?_;intro v2 w2 ho2 hb2 hg2 hnew2;clear hg2 hnew2;simp only [Int.toNat_natCast] at ho2;have HO:=Aside0.mk (Kd.R_lower ho2 hb1.size);have HB2:=Aside0.mk (below_then hb1 hb1.size hb2);clear ho2 hb2 hb1;obtain ⟨Ao,co,eo⟩:=Kd.R_slice HO.out;rw [List.length_replicate] at eo;subst eo))
 have HB3:=Aside0.mk (below_then HB.out HB.out.size HB2.out)
 have HK3:=Aside0.mk ((HB2.out.block bk lbk).trans HK.out)
 clear HB HK
 obtain ⟨wB,hwB⟩:∃ q,q = w.heap.size:=⟨_,rfl⟩
 rw [← hwB] at HO lbk
 have HWB:=Aside0.mk hwB
 clear hwB HB2
 go_loopg [23] (n + 1) (fun q v23 wr => ∃ i:Nat,i + q = n + 1∧i≤n∧v23 = .int .i64 i∧Aside0 (Kd.R (Kd.int .u64) 24 wr wB (fun k_ => wB≤k_) (.slice Ao n co) (Ma.mk D i ++ List.replicate (n - i) 0))∧Aside0 (Below w0.heap.size w0 wr)∧Aside0 (wr.heap[bk]? = some (.cells #[.int .u64 (cy i)] 24 (0,0))))
 case atStart => exact ⟨0,by omega,by omega,rfl,⟨by simpa [Ma.mk] using HO.out⟩,HB3,HK3⟩
 case round =>
  clear HB3 HK3 HO
  obtain ⟨i,hiq,hin,rfl,HO,HB,HK⟩:=hrel
  have hl:=Ma.mk_full_length D hin
  cases gk with
  | zero => omega
  | succ k1 =>
   by_cases hlt:i < n
   ·
    have d1:decide ((i:Int) < (n:Int)) = true:=decide_eq_true (by omega)
    have d2:decide (i < n) = true:=decide_eq_true hlt
    have HE:=Aside0.mk hiq
    clear hiq
    go_wp2_with (first
     | ((with_reducible refine gate_callee (f:=165) rfl ?_);refine goesL_ (some 31) rfl rfl Try.func165 (by kernel_rfl) rfl #[.slice A1 l1.length c1,.int .i64 (i:Int)] rfl (by (try simp only [List.map_toArray,List.map_cons,List.map_nil]);first | done | rfl) ?_;(with_reducible refine (limbs_at.calls _ _ l1 (i:Int) (Ma.at0 l1 i) _ ?s1 hc1 (sp_limbs_at l1 i)).mono ?_);(case s1 => exact Kd.C_below HR1.out (pw_below_drewN HB.out 0));rintro e w' ⟨rfl,⟨nd,rfl⟩⟩;refine ⟨_,rfl,?_⟩)
     | ((with_reducible refine gate_callee (f:=165) rfl ?_);refine goesL_ (some 34) rfl rfl Try.func165 (by kernel_rfl) rfl #[.slice A2 l2.length c2,.int .i64 (i:Int)] rfl (by (try simp only [List.map_toArray,List.map_cons,List.map_nil]);first | done | rfl) ?_;(with_reducible refine (limbs_at.calls _ _ l2 (i:Int) (Ma.at0 l2 i) _ ?s2 hc2 (sp_limbs_at l2 i)).mono ?_);(case s2 => exact Kd.C_below HR2.out (pw_below_drewN HB.out _));rintro e w' ⟨rfl,⟨nd2,rfl⟩⟩;refine ⟨_,rfl,?_⟩))
    refine (HST.out i hlt _ (by exact HK.out)).mono ?_
    rintro e w3 ⟨rfl,hp⟩
    have HO3:=Aside0.mk (hp.row (Kd.R_drewN HO.out _) (fun k hk => by omega))
    have HK3:=Aside0.mk hp.at_
    have HB3:=Aside0.mk (hp.below (pw_below_drewN HB.out _) hbk)
    clear hp HO HK HB
    obtain ⟨go,co2,eo,gb,gl,cl,HG⟩:=Kd.R_form HO3.out (by rw [hl];omega)
    rw [hl] at eo
    cases eo
    have p1:(0:Int)≤(i:Int):=by omega
    have q1:(i:Int) < (n:Int):=by omega
    obtain ⟨hx,hf⟩:=Kd.R_celln 0 HO3.out (i:Int) p1 q1
    have hP:=(Kd.R_putg HO3.out (i:Int) (D i)).1
    simp only [Int.toNat_natCast] at hx hf hP
    rw [Ma.mk_set D hlt] at hP
    have HP:=Aside0.mk hP
    clear HG cl hP
    go_wp2_with ((with_reducible refine gate_store (t:=24) (p:=36) rfl ?_);refine store_event (t:=24) (p:=36) (v:=?vo) (w1:=(w3.setCell ⟨go,i,none⟩ (.int .u64 (D i)))) ?hg ?ho ?hn ?hr ?_;(case ho => rfl);(case hg => rfl);(case hn => rfl);(case hr => first | (go_simp;done) | (go_simp;rfl));intro w4 hw;have HO4:=Aside0.mk (show Kd.R (Kd.int .u64) 24 w4 wB (fun k_ => wB≤k_) (.slice (some ⟨go,0,none⟩) n co) (Ma.mk D (i + 1) ++ List.replicate (n - (i + 1)) 0) from by rw [hw];exact HP.out);have HB4:=Aside0.mk (show Below w0.heap.size w0 w4 from by rw [hw];exact below_set HB3.out (by omega));have HK4:=Aside0.mk (show w4.heap[bk]? = some (.cells #[.int .u64 (cy (i + 1))] 24 (0,0)) from by rw [hw];exact blk_far HK3.out (by show bk≠go;omega) _);clear hw HP HO3 HB3 HK3 hx hf)
    go_roundg k1
    case measure => omega
    case rel => exact ⟨i + 1,by have:=HE.out;omega,by omega,by go_num,HO4,HB4,HK4⟩
   ·
    have hin':i = n:=by omega
    subst hin'
    have d1:decide ((i:Int) < (i:Int)) = false:=decide_eq_false (by omega)
    have d2:decide (i < i) = false:=decide_eq_false hlt
    go_wp2
    go_ret
    have h:=HO.out
    rw [HWB.out] at h
    exact ⟨_,rfl,by simpa using Kd.R_mono h (fun _ _ => trivial),HB.out,HK.out⟩
theorem Left_step {c:Int} {l1:List Int} (hc:c = 0∨c = 1) (h1:l1.all Ma.wd = true) (i:Nat) :
  Go.bits .or .u64 (IntKind.u64.wrap (Ma.at0 l1 i * 2)) (Ma.cyL c l1 i) = Ma.dgL c l1 i:=by
 have x1:=Ma.at0_dg (by decide) (Ma.wds_dg.1 h1) i
 have xc:=Ma.cyL_bit hc (Ma.wds_dg.1 h1) i
 rw [Ma.wU]
 exact Ma.b_or_add 1 (by omega) (by omega) xc.1 (by omega) (by omega) (by omega)
def limbs_Left.f (l1:List Int) (a2:Int):Option (List Int × Int) :=
 if (Ma.wd a2 = true∧l1.length≤35184372088832)∧l1.all Ma.wd = true then some (Ma.mk (Ma.dgL (a2 % 2) l1) l1.length,Ma.cyL (a2 % 2) l1 l1.length) else none
theorem limbs_Left.calls (A1:Option Addr) (c1:Nat) (l1:List Int) (a2:Int) (r1:List Int) (r2:Int) (w:World) (hr1:Kd.C (Kd.int .u64) w A1 l1.length l1) (hc1:l1.length≤c1) (h:limbs_Left.f l1 a2 = some (r1,r2)) :
  Calls Try.prog 115 #[.pointer none,.slice A1 l1.length c1,.int .u64 a2] w fun e w' => ∃ v0_:Value,e = .returned (.tuple #[v0_,.int .u64 r2])∧Kd.R (Kd.int .u64) 24 w' w.heap.size (fun _ => True) v0_ r1∧Below w.heap.size w w':=by
 unfold limbs_Left.f at h
 split at h
 ·
  rename_i hc
  obtain ⟨⟨h1,hn2⟩,h2⟩:=hc
  simp only [Option.some.injEq,Prod.mk.injEq] at h
  obtain ⟨rfl,rfl⟩:=h
  have HB1:=Aside0.mk (Ma.b_and1 (Ma.wd_iff.1 h1).1 (Ma.wd_iff.1 h1).2)
  have HST:=Aside0.mk (Left_step (c:=a2 % 2) (by omega) h2)
  have HWD:=Aside0.mk (fun i => (Ma.at0_dg (by decide) (Ma.wds_dg.1 h2) i).1)
  clear h1 h2
  have HR1:=Aside0.mk hr1
  clear hr1
  have hx0:(w.alloc (.cells #[.int .u64 a2] 24)).cell? ⟨w.heap.size,0,none⟩ = some (.int .u64 a2):=(blk_cell (heap_alloc_new w _) 0).trans rfl
  have hx2:(w.alloc (.cells #[.int .u64 a2] 24)).frozen? ⟨w.heap.size,0,none⟩ = false:=blk_frozen (heap_alloc_new w _) 0
  obtain ⟨b,hb⟩:∃ b,b = Go.bits .and .u64 a2 1:=⟨_,rfl⟩
  have HB:=Aside0.mk (hb.trans HB1.out)
  have HA:=Aside0.mk HB1.out
  clear hb HB1
  obtain ⟨hb2,hb3⟩:=one_box w 0 (.int .u64 a2) 24
  have HB2:=Aside0.mk hb2
  have HB3:=Aside0.mk hb3
  clear hb2 hb3
  go_enter Try.func115,Try.ntmps115
  go_wp2_with fail
  refine (limbs_each_Left l1.length A1 none c1 0 l1 [] w.heap.size (Ma.dgL (a2 % 2) l1) (Ma.cyL (a2 % 2) l1) w _ HR1.out hc1 (C_nil w) (by simp) (by simp) hn2 (by first | exact HB3.out | exact below_set HB3.out (Nat.le_refl _) | exact below_alloc (Below.refl _ _) _) (Nat.le_refl _) (by
   have e:=Ma.b_and1 (a:=a2) ;first | exact one_setCell (u:=.int .u64 (a2 % 2)) HB2.out | (have h0:=one_setCell (u:=.int .u64 (Go.bits .and .u64 a2 1)) HB2.out;rw [show Go.bits .and .u64 a2 1 = a2 % 2 from by rw [← HB.out];assumption] at h0;exact h0) | (have h0:=blk_new w (.cells #[.int .u64 (Go.bits .and .u64 a2 1)] 24 (0,0));rw [HA.out] at h0 ⊢;exact h0)) (fun i _ W k2 => by have h:=limbs_Left_1 (Ma.at0 l1 i) (Ma.at0 [] i) (Ma.cyL (a2 % 2) l1 i) w.heap.size W (HWD.out i) k2;rw [HST.out i] at h;exact h)).mono ?_
  rintro e w3 ⟨v,rfl,hR,hB,hK⟩
  have hz:=below_size HB3.out
  have HR:=Aside0.mk (Kd.R_lower hR (show w.heap.size≤_ from by first | exact hz | simp))
  have HBe:=Aside0.mk hB
  have ck:=cell_of_one hK
  clear hR hB hz hK hx0 hx2
  go_wp2
  go_quiet (fail)
  go_wp2
  go_ret2
  exact ⟨v,rfl,Kd.R_drewN HR.out _,pw_below_drewN HBe.out _⟩
 ·
  exact absurd h (by simp)
def sconceref03_divSmall.l0:Nat→List Int→Int→List Int→Int→Int→Option (List Int × List Int)
 | 0,_,_,_,_,_ => none
 | k + 1,x0,x1,x6,x7,x8 => if x8 ≥ 0 then (if 0≤x8 then (if x8 < (x0.length:Int) then (if (IntKind.u64.wrap (x1)) = 0 then (none) else (if x8 < (x6.length:Int) then (sconceref03_divSmall.l0 k x0 x1 (x6.set (x8:Int).toNat ((IntKind.u64.wrap (Int.tdiv (Go.bits .or .u64 (IntKind.u64.wrap (x7 * 4294967296)) (IntKind.u64.wrap (rd x0 x8))) (IntKind.u64.wrap (x1)))) % 4294967296)) (Int.tmod (Go.bits .or .u64 (IntKind.u64.wrap (x7 * 4294967296)) (IntKind.u64.wrap (rd x0 x8))) (IntKind.u64.wrap (x1))) (wrap64 (x8 - 1))) else (none))) else (none)) else (none)) else ((sconceref03_trim.f k x6).bind fun t215 => ((sconceref03_Small.f k x7).bind fun t218 => (some (t215,t218))))
def sconceref03_divSmall.f (k:Nat) (l0:List Int) (a1:Int):Option (List Int × List Int):=if 0≤(l0.length:Int) then (if ((l0.length:Int):Int).toNat≤70368744177664 then (sconceref03_divSmall.l0 k l0 a1 (List.replicate ((l0.length:Int):Int).toNat 0) 0 (wrap64 ((l0.length:Int) - 1))) else (none)) else (none)
theorem sconceref03_divSmall.calls (k:Nat) (A0:Option Addr) (c0:Nat) (l0:List Int) (a1:Int) (r1:List Int) (r2:List Int) (w:World) (hr0:Kd.C (Kd.int .u32) w A0 l0.length l0) (hc0:l0.length≤c0) (h:sconceref03_divSmall.f k l0 a1 = some (r1,r2)) :
  Calls Try.prog 138 #[.slice A0 l0.length c0,.int .u32 a1] w fun e w' => ∃ v0_ v1_:Value,e = .returned (.tuple #[v0_,v1_])∧Kd.V (Kd.int .u32) 83 w' w.heap.size (fun k_ => (w.heap.size≤k_)) v0_ r1∧Kd.V (Kd.int .u32) 83 w' w.heap.size (fun k_ => (w.heap.size≤k_)) v1_ r2∧Below w.heap.size w w':=by
 have HR0:=Aside0.mk hr0
 have HC0:=Aside0.mk hc0
 clear hr0 hc0
 have HB:=Aside0.mk (Below.refl w.heap.size w)
 have H:(if 0≤(l0.length:Int) then (if ((l0.length:Int):Int).toNat≤70368744177664 then (sconceref03_divSmall.l0 k l0 a1 (List.replicate ((l0.length:Int):Int).toNat 0) 0 (wrap64 ((l0.length:Int) - 1))) else (none)) else (none)) = some (r1,r2):=h
 clear h
 by_cases c3:0≤(l0.length:Int)
 ·
  rw [if_pos c3] at H
  have c3b0:=eq_true c3
  have c3b1:decide (0≤(l0.length:Int)) = true:=decide_eq_true c3
  clear c3
  by_cases c4:((l0.length:Int):Int).toNat≤70368744177664
  ·
   rw [if_pos c4] at H
   have c4b0:=eq_true c4
   have c4b1:decide (((l0.length:Int):Int).toNat≤70368744177664) = true:=decide_eq_true c4
   clear c4
   obtain ⟨y210,hy210⟩:∃ y_:List Int,y_ = (List.replicate ((l0.length:Int):Int).toNat 0):=⟨_,rfl⟩
   replace H:(sconceref03_divSmall.l0 k l0 a1 y210 0 (wrap64 ((l0.length:Int) - 1))) = some (r1,r2):=by first | (rw [hy210];with_reducible exact H) | (have H2_:=(Option.bind_some _ _).symm.trans H;rw [hy210];with_reducible exact H2_) | (have H2_:=(Option.bind_some _ _).symm.trans H;with_reducible exact H2_) | with_reducible exact H | (rw [hy210];exact H) | exact H
   have Ny210:=Aside0.mk hy210
   clear hy210
   have H':=Aside0.mk H
   clear H
   go_enter Try.func138,Try.ntmps138
   go_wp2_with (first | ((with_reducible refine gate_dst (N:=11) rfl ?_);refine Kd.R_make (Kd.int .u32) _ 83 rfl (N:=11) rfl 48 _ _ rfl (l0.length:Int) rfl rfl Try.underlying48 (.int .u32 0) 4 info83 rfl (by decide) (by omega) 0 (ok:=fun _ => True) (okp:=fun _ => True) rfl (fun _ hk => hk) trivial (of_decide_eq_true vD) (Nat.le_trans (Nat.mul_le_mul_right _ (of_decide_eq_true vD:(l0.length:Int).toNat≤70368744177664)) (by omega)) (Below.refl _ _) (Nat.le_refl _) ?_;intro v211 w5 ho6 hb hg_ hnew_;clear hg_ hnew_;(first | rw [← Ny210.out] at ho6 | (simp only [Int.reduceToNat] at ho6;rw [← Ny210.out] at ho6));have n0_:=Aside0.mk (Kd.R_lower (Kd.R_newM (M:=fun k_ => (w.heap.size≤k_)) ho6 (below_size (vB HB.out)) (fun k_ h_ => h_)) (below_size (vB HB.out)));have n1_:=Aside0.mk (below_step (vB HB.out) hb);clear HB;have HO212:=n0_;have HB:=n1_;clear n0_ n1_;clear hb ho6))
   go_loopg [7,8] k (fun kq v7 v8 w' => ∃ (x6_1:List Int) (x7_1:Int) (x8_1:Int),v7 = .int .u64 x7_1∧v8 = .int .i64 x8_1∧Aside0 (sconceref03_divSmall.l0 kq l0 a1 x6_1 x7_1 x8_1 = some (r1,r2))∧Aside0 (kq≤k)∧Aside0 (Kd.R (Kd.int .u32) 83 w' w.heap.size (fun k_ => (w.heap.size≤k_)) v211 x6_1)∧Aside0 (Below w.heap.size w w'))
   case atStart => exact ⟨(y210),(0),(wrap64 ((l0.length:Int) - 1)),(by first | rfl | (simp;done) | (simp [*];done)),(by first | rfl | (simp;done) | (simp [*];done)),H',⟨Nat.le_refl _⟩,⟨by (with_reducible repeat (first | apply Kd.R_alloc | apply Kd.R_drewN | apply Kd.R_drew));exact Kd.R_mono HO212.out (fun _ hk => hk.1)⟩,⟨by repeat (first | (with_reducible first | exact HB.out | apply below_alloc | apply pw_below_drewN | apply below_drew1) | exact HB.out)⟩⟩
   case round =>
    clear H'
    try clear c1
    try clear p2
    try clear c3
    try clear c3b0
    try clear c3b1
    try clear c4
    try clear c4b0
    try clear c4b1
    try clear p6
    obtain ⟨x6_1,x7_1,x8_1,rfl,rfl,HA,HK1,HO_6,HB⟩:=hrel
    cases gk with
    | zero => exact absurd HA.out (by simp [sconceref03_divSmall.l0])
    | succ k1 =>
     have H:=HA.out
     clear HA
     simp only [sconceref03_divSmall.l0] at H
     by_cases c7:x8_1 ≥ 0
     ·
      rw [if_pos c7] at H
      have c7b0:decide (0≤x8_1) = true:=decide_eq_true c7
      clear c7
      by_cases c8:0≤x8_1
      ·
       rw [if_pos c8] at H
       have c8b0:decide (0≤x8_1) = true:=decide_eq_true c8
       clear c8
       by_cases c9:x8_1 < (l0.length:Int)
       ·
        rw [if_pos c9] at H
        have c9b0:decide (x8_1 < (l0.length:Int)) = true:=decide_eq_true c9
        clear c9
        by_cases c10:(IntKind.u64.wrap (a1)) = 0
        ·
         rw [if_pos c10] at H
         exact absurd H (by simp)
        ·
         rw [if_neg c10] at H
         have c10b0:((IntKind.u64.wrap (a1)) == 0) = false:=beq_eq_false_iff_ne.mpr c10
         have c10b1:((IntKind.u64.wrap (a1)) != 0) = true:=bne_iff_ne.mpr c10
         by_cases c11:x8_1 < (x6_1.length:Int)
         ·
          rw [if_pos c11] at H
          have c11b0:decide (x8_1 < (x6_1.length:Int)) = true:=decide_eq_true c11
          clear c11
          obtain ⟨y214,hy214⟩:∃ y_:List Int,y_ = (x6_1.set (x8_1:Int).toNat ((IntKind.u64.wrap (Int.tdiv (Go.bits .or .u64 (IntKind.u64.wrap (x7_1 * 4294967296)) (IntKind.u64.wrap (rd l0 x8_1))) (IntKind.u64.wrap (a1)))) % 4294967296)):=⟨_,rfl⟩
          replace H:(sconceref03_divSmall.l0 k1 l0 a1 y214 (Int.tmod (Go.bits .or .u64 (IntKind.u64.wrap (x7_1 * 4294967296)) (IntKind.u64.wrap (rd l0 x8_1))) (IntKind.u64.wrap (a1))) (wrap64 (x8_1 - 1))) = some (r1,r2):=by first | (rw [hy214];with_reducible exact H) | (have H2_:=(Option.bind_some _ _).symm.trans H;rw [hy214];with_reducible exact H2_) | (have H2_:=(Option.bind_some _ _).symm.trans H;with_reducible exact H2_) | with_reducible exact H | (rw [hy214];exact H) | exact H
          have Ny214:=Aside0.mk hy214
          clear hy214
          have H':=Aside0.mk H
          clear H
          have p213:0≤(x8_1:Int):=of_decide_eq_true vD
          have q213:x8_1 < (l0.length:Int):=of_decide_eq_true vD
          obtain ⟨ad213,e213,hx213_0⟩:=Kd.at_int HR0.out x8_1 p213 q213
          cases e213
          replace hx213_0:=(HB.out.cell (World.block_lt_of_cell? w _ hx213_0)).trans hx213_0
          replace p213:=eq_true p213
          replace q213:=eq_true q213
          have p12:0≤(x8_1:Int):=of_decide_eq_true vD
          have q12:(x8_1:Int) < ((x6_1.length:Int):Int):=of_decide_eq_true vD
          obtain ⟨go12,co12,eo12,gb12,gl12,cl12,HG12⟩:=Kd.R_form HO_6.out (by omega)
          (first | cases eo12 | (injection eo12 with ea_ en_ ec_;(first | subst ea_ | (injection ea_ with ea_;subst ea_));subst ec_;clear en_))
          have GB12:=Aside0.mk gb12
          have GG12:=Aside0.mk HG12
          clear gb12 gl12 HG12
          obtain ⟨hx12_0,hf12_0⟩:=Kd.R_celln 0 HO_6.out (x8_1:Int) p12 q12
          replace p12:=eq_true p12
          replace q12:=eq_true q12
          have HP13:=Kd.R_putg HO_6.out (x8_1:Int) ((IntKind.u64.wrap (Int.tdiv (Go.bits .or .u64 (IntKind.u64.wrap (x7_1 * 4294967296)) (IntKind.u64.wrap (rd l0 x8_1))) (IntKind.u64.wrap (a1)))) % 4294967296)
          go_wp2_with (first | ((with_reducible refine gate_store (t:=83) (p:=34) rfl ?_);refine store_event (t:=83) (p:=34) (v:=?vo_w14) (w1:=(wr.setCell ⟨go12,(x8_1:Int).toNat,none⟩ (.int .u32 ((IntKind.u64.wrap (Int.tdiv (Go.bits .or .u64 (IntKind.u64.wrap (x7_1 * 4294967296)) (IntKind.u64.wrap (rd l0 x8_1))) (IntKind.u64.wrap (a1)))) % 4294967296)))) ?hg ?ho ?hn ?hr ?_;(case ho => rfl);(case hg => rfl);(case hn => rfl);(case hr => first | (go_simp;done) | (go_simp;rfl));intro w14 hw;have hg:wr.grownBy w14 (some go12):=(by rw [hw];exact HP13.2);have hp_:Kd.R (Kd.int .u32) 83 w14 w.heap.size (fun k_ => (w.heap.size≤k_)) (.slice (some ⟨go12,0,none⟩) x6_1.length co12) y214:=(by rw [hw,Ny214.out];exact HP13.1);clear HP13;have n0_:=Aside0.mk (hp_);have n1_:=Aside0.mk ((by rw [hw];exact below_set (HB.out) GB12.out:Below w.heap.size w w14));clear HO_6;clear HB;have HO_6:=n0_;have HB:=n1_;clear n0_ n1_;clear hg hw hp_))
          go_roundg k1
          case measure => have:=HK1.out;omega
          case rel => exact ⟨(y214),(Int.tmod (Go.bits .or .u64 (IntKind.u64.wrap (x7_1 * 4294967296)) (IntKind.u64.wrap (rd l0 x8_1))) (IntKind.u64.wrap (a1))),(wrap64 (x8_1 - 1)),(by first | rfl | (simp;done) | (simp [*];done)),(by first | rfl | (simp;done) | (simp [*];done)),H',⟨by have:=HK1.out;omega⟩,⟨by (with_reducible repeat (first | apply Kd.R_alloc | apply Kd.R_drewN | apply Kd.R_drew));exact HO_6.out⟩,⟨by repeat (first | (with_reducible first | exact HB.out | apply below_alloc | apply pw_below_drewN | apply below_drew1) | exact HB.out)⟩⟩
         ·
          rw [if_neg c11] at H
          exact absurd H (by simp)
       ·
        rw [if_neg c9] at H
        exact absurd H (by simp)
      ·
       rw [if_neg c8] at H
       exact absurd H (by simp)
     ·
      rw [if_neg c7] at H
      have c7b0:decide (0≤x8_1) = false:=decide_eq_false c7
      clear c7
      replace H:=Option.bind_eq_some_iff.mp H
      obtain ⟨t215,A150,H⟩:=H
      replace H:((sconceref03_Small.f k1 x7_1).bind fun t218 => (some (t215,t218))) = some (r1,r2):=H
      have A15:=Aside0.mk A150
      clear A150
      replace H:=Option.bind_eq_some_iff.mp H
      obtain ⟨t218,A160,H⟩:=H
      replace H:(some (t215,t218)) = some (r1,r2):=H
      have A16:=Aside0.mk A160
      clear A160
      simp only [Option.some.injEq,Prod.mk.injEq] at H
      obtain ⟨rfl,rfl⟩:=H
      obtain ⟨Ao17,co17,eo17⟩:=Kd.R_slice HO_6.out
      subst eo17
      go_wp2_with (first | ((with_reducible refine gate_callee (f:=85) rfl ?_);refine goesL_ (some 40) rfl rfl Try.func85 (by kernel_rfl) rfl #[.slice Ao17 x6_1.length co17] rfl vA ?_;(with_reducible refine (sconceref03_trim.calls k1 (fun k_ => some k_ = (.slice Ao17 x6_1.length co17:Value).ownBlock) _ _ x6_1 t215 _ ?side1 A15.out).mono ?_);(case side1 => exact Kd.R_V (Kd.R_tight rfl (HO_6.out)));rintro e w18 ⟨v216,rfl,ho0,hb⟩;refine ⟨_,rfl,?_⟩;have n0_:=Aside0.mk (Kd.R_below (vR HO_6.out) hb);have n1_:=Aside0.mk (Kd.V_lower (Kd.V_mono (ok':=fun k_ => (w.heap.size≤k_)) ho0 (fun k_ hk_ => Or.elim hk_ (fun hs_ => ((HO_6.out).1 k_ hs_.symm)) (fun hn_ => (Nat.le_trans (below_size (vB HB.out)) hn_)))) (below_size (vB HB.out)));have n2_:=Aside0.mk (below_step (vB HB.out) hb);clear HO_6;clear HB;have HO_6:=n0_;have HO217:=n1_;have HB:=n2_;clear n0_ n1_ n2_;(try clear hb);(try clear hb2);(try clear hk);(try clear hi);(try clear ho0)) | ((with_reducible refine gate_callee (f:=44) rfl ?_);refine goesL_ (some 42) rfl rfl Try.func44 (by kernel_rfl) rfl #[.int .u64 x7_1] rfl vA ?_;(with_reducible refine (sconceref03_Small.calls k1 x7_1 t218 _ A16.out).mono ?_);rintro e w19 ⟨v219,rfl,ho0,hb⟩;refine ⟨_,rfl,?_⟩;have n0_:=Aside0.mk (Kd.R_below (vR HO_6.out) hb);have n1_:=Aside0.mk (Kd.V_below (vV HO217.out) hb);have n2_:=Aside0.mk (Kd.V_lower (Kd.V_mono (ok':=fun k_ => (w.heap.size≤k_)∧some k_≠(.slice Ao17 x6_1.length co17:Value).ownBlock) ho0 (fun k_ hk_ => ⟨(Nat.le_trans (below_size (vB HB.out)) hk_),(Kd.fresh' (Kd.R_lt (vR HO_6.out)) k_ hk_)⟩)) (below_size (vB HB.out)));have n3_:=Aside0.mk (below_step (vB HB.out) hb);clear HO_6;clear HO217;clear HB;have HO_6:=n0_;have HO217:=n1_;have HO220:=n2_;have HB:=n3_;clear n0_ n1_ n2_ n3_;(try clear hb);(try clear hb2);(try clear hk);(try clear hi);(try clear ho0)))
      go_ret2
      exact ⟨_,_,by first | rfl | (simp [errW_none,errW_some] <;> rfl) | (simp [*,errW_none,errW_some] <;> rfl),by (with_reducible repeat (first | apply Kd.V_alloc | apply Kd.V_drewN | apply Kd.V_drew));exact HO217.out,by (with_reducible repeat (first | apply Kd.V_alloc | apply Kd.V_drewN | apply Kd.V_drew));exact Kd.V_mono HO220.out (fun _ hk => hk.1),by repeat (first | (with_reducible first | exact HB.out | apply below_alloc | apply pw_below_drewN | apply below_drew1) | exact HB.out)⟩
  ·
   rw [if_neg c4] at H
   exact absurd H (by simp)
 ·
  rw [if_neg c3] at H
  exact absurd H (by simp)
def sconceref01_One.f (a0:Bool):Option (Int):=if a0 = true then (some 1) else (some 0)
theorem sconceref01_One.calls (a0:Bool) (r:Int) (w:World) (h:sconceref01_One.f a0 = some r) :
  Calls Try.prog 140 #[.bool a0] w fun e w' => e = .returned (.int .u64 r)∧Drawn0 w w':=by
 have H:(if a0 = true then (some 1) else (some 0)) = some r:=h
 clear h
 by_cases c2:a0 = true
 ·
  subst c2
  have H1:(some 1) = some r:=by rw [if_pos rfl] at H;exact H
  clear H
  have H:=H1
  clear H1
  obtain rfl:=Option.some.inj H
  go_enter Try.func140,Try.ntmps140
  go_wp2
  go_ret
  exact ⟨by first | rfl | (simp;done) | (simp [*];done),by repeat (first | exact Drawn0.refl _ | apply Drawn0.step)⟩
 ·
  replace c2:=Bool.eq_false_iff.mpr c2
  subst c2
  have H1:(some 0) = some r:=by rw [if_neg (show ¬ (false = true) by decide)] at H;exact H
  clear H
  have H:=H1
  clear H1
  obtain rfl:=Option.some.inj H
  go_enter Try.func140,Try.ntmps140
  go_wp2
  go_ret
  exact ⟨by first | rfl | (simp;done) | (simp [*];done),by repeat (first | exact Drawn0.refl _ | apply Drawn0.step)⟩
def bits_Mul64.f (a0:Int) (a1:Int):Option (Int × Int):=some (IntKind.u64.wrap ((IntKind.u64.wrap ((IntKind.u64.wrap ((a0 / 4294967296) * (a1 / 4294967296))) + ((IntKind.u64.wrap ((IntKind.u64.wrap ((a0 / 4294967296) * (Go.bits .and .u64 a1 4294967295))) + ((IntKind.u64.wrap ((Go.bits .and .u64 a0 4294967295) * (Go.bits .and .u64 a1 4294967295))) / 4294967296))) / 4294967296))) + ((IntKind.u64.wrap ((Go.bits .and .u64 (IntKind.u64.wrap ((IntKind.u64.wrap ((a0 / 4294967296) * (Go.bits .and .u64 a1 4294967295))) + ((IntKind.u64.wrap ((Go.bits .and .u64 a0 4294967295) * (Go.bits .and .u64 a1 4294967295))) / 4294967296))) 4294967295) + (IntKind.u64.wrap ((Go.bits .and .u64 a0 4294967295) * (a1 / 4294967296))))) / 4294967296)),IntKind.u64.wrap (a0 * a1))
theorem bits_Mul64.calls (a0:Int) (a1:Int) (r1:Int) (r2:Int) (w:World) (h:bits_Mul64.f a0 a1 = some (r1,r2)) :
  Calls Try.prog 175 #[.int .u64 a0,.int .u64 a1] w fun e w' => e = .returned (.tuple #[.int .u64 r1,.int .u64 r2])∧Drawn0 w w':=by
 have H:(some (IntKind.u64.wrap ((IntKind.u64.wrap ((IntKind.u64.wrap ((a0 / 4294967296) * (a1 / 4294967296))) + ((IntKind.u64.wrap ((IntKind.u64.wrap ((a0 / 4294967296) * (Go.bits .and .u64 a1 4294967295))) + ((IntKind.u64.wrap ((Go.bits .and .u64 a0 4294967295) * (Go.bits .and .u64 a1 4294967295))) / 4294967296))) / 4294967296))) + ((IntKind.u64.wrap ((Go.bits .and .u64 (IntKind.u64.wrap ((IntKind.u64.wrap ((a0 / 4294967296) * (Go.bits .and .u64 a1 4294967295))) + ((IntKind.u64.wrap ((Go.bits .and .u64 a0 4294967295) * (Go.bits .and .u64 a1 4294967295))) / 4294967296))) 4294967295) + (IntKind.u64.wrap ((Go.bits .and .u64 a0 4294967295) * (a1 / 4294967296))))) / 4294967296)),IntKind.u64.wrap (a0 * a1))) = some (r1,r2):=h
 clear h
 simp only [Option.some.injEq,Prod.mk.injEq] at H
 obtain ⟨rfl,rfl⟩:=H
 go_enter Try.func175,Try.ntmps175
 go_wp2
 go_ret2
 exact ⟨by first | rfl | (simp;done) | (simp [*];done),by repeat (first | exact Drawn0.refl _ | apply Drawn0.step)⟩
end Go.Proofs.Ytonpekldcnankaa.X
