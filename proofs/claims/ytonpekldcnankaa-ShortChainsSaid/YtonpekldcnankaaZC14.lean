/- Texts of the walk and of the plain laws, laid together by a program: X7. -/
import Derived.Test.YtonpekldcnankaaZC11
set_option maxHeartbeats 8000000
set_option maxRecDepth 100000
namespace Go.Proofs.Ytonpekldcnankaa.X
open Go.RowKit Go.Proofs.YtonpekldcnankaaW.PrintWords Go.Proofs.YtonpekldcnankaaW.PrintLast Go.Proofs.YtonpekldcnankaaW.PrintMore
attribute [local go_sem] max2_int min2_int max_two min_two max_three min_three max_four min_four
set_option linter.unusedVariables false
set_option linter.unusedSimpArgs false
def nat_Bits.f (k:Nat) (l0:List Int):Option (Int):=(nat_least.f k l0).bind fun t191 => (if t191 = 0 then (some 0) else (if 0≤(wrap64 (t191 - 1)) then (if (wrap64 (t191 - 1)) < (l0.length:Int) then ((bits_Len64.f (rd l0 (wrap64 (t191 - 1)))).bind fun t193 => (some (wrap64 ((wrap64 (64 * (wrap64 (t191 - 1)))) + t193)))) else (none)) else (none)))
theorem nat_Bits.calls (k:Nat) (A0:Option Addr) (c0:Nat) (l0:List Int) (r:Int) (w:World) (hr0:Kd.C (Kd.int .u64) w A0 l0.length l0) (hc0:l0.length≤c0) (h:nat_Bits.f k l0 = some r) :
  Calls Try.prog 94 #[.slice A0 l0.length c0] w fun e w' => e = .returned (.int .i64 r)∧Drawn0 w w':=by
 have HR0:=Aside0.mk hr0
 have HC0:=Aside0.mk hc0
 clear hr0 hc0
 have H:((nat_least.f k l0).bind fun t191 => (if t191 = 0 then (some 0) else (if 0≤(wrap64 (t191 - 1)) then (if (wrap64 (t191 - 1)) < (l0.length:Int) then ((bits_Len64.f (rd l0 (wrap64 (t191 - 1)))).bind fun t193 => (some (wrap64 ((wrap64 (64 * (wrap64 (t191 - 1)))) + t193)))) else (none)) else (none)))) = some r:=h
 clear h
 replace H:=Option.bind_eq_some_iff.mp H
 obtain ⟨t191,A20,H⟩:=H
 replace H:(if t191 = 0 then (some 0) else (if 0≤(wrap64 (t191 - 1)) then (if (wrap64 (t191 - 1)) < (l0.length:Int) then ((bits_Len64.f (rd l0 (wrap64 (t191 - 1)))).bind fun t193 => (some (wrap64 ((wrap64 (64 * (wrap64 (t191 - 1)))) + t193)))) else (none)) else (none))) = some r:=H
 have A2:=Aside0.mk A20
 clear A20
 by_cases c3:t191 = 0
 ·
  rw [if_pos c3] at H
  have c3b0:(t191 == 0) = true:=beq_iff_eq.mpr c3
  have c3b1:(t191 != 0) = false:=bne_eq_false_iff_eq.mpr c3
  clear c3
  obtain rfl:=Option.some.inj H
  go_enter Try.func94,Try.ntmps94
  go_wp2_with (first | ((with_reducible refine gate_callee (f:=127) rfl ?_);refine goesL_ (some 5) rfl rfl Try.func127 (by kernel_rfl) rfl #[.slice A0 l0.length c0] rfl vA ?_;(with_reducible refine (nat_least.calls k _ _ l0 t191 _ ?side1 ?side2 A2.out).mono ?_);(case side1 => repeat (first | exact HR0.out | (with_reducible refine Kd.C_alloc ?_ _) | (with_reducible refine Kd.C_drewN ?_ _) | (with_reducible refine Kd.C_drew ?_)));(case side2 => exact HC0.out);rintro e w' ⟨rfl,⟨nd,rfl⟩⟩;refine ⟨_,rfl,?_⟩))
  go_ret
  exact ⟨by first | rfl | (simp;done) | (simp [*];done),by repeat (first | exact Drawn0.refl _ | apply Drawn0.step)⟩
 ·
  rw [if_neg c3] at H
  have c3b0:(t191 == 0) = false:=beq_eq_false_iff_ne.mpr c3
  have c3b1:(t191 != 0) = true:=bne_iff_ne.mpr c3
  obtain ⟨ji4,hji4⟩:∃ j_:Int,(wrap64 (t191 - 1)) = j_:=⟨_,rfl⟩
  replace H:(if 0≤(ji4) then (if (ji4) < (l0.length:Int) then ((bits_Len64.f (rd l0 (ji4))).bind fun t193 => (some (wrap64 ((wrap64 (64 * (ji4))) + t193)))) else (none)) else (none)) = some r:=by first | (rw [hji4] at H;exact H) | (simp only [hji4] at H ⊢;exact H)
  (try rw [hji4] at A2)
  have hji4w:(IntKind.i64.wrap (t191 - 1)) = ji4:=(i64_w _).trans hji4
  by_cases c5:0≤(ji4)
  ·
   rw [if_pos c5] at H
   have c5b0:decide (0≤(ji4)) = true:=decide_eq_true c5
   clear c5
   by_cases c6:(ji4) < (l0.length:Int)
   ·
    rw [if_pos c6] at H
    have c6b0:decide ((ji4) < (l0.length:Int)) = true:=decide_eq_true c6
    clear c6
    replace H:=Option.bind_eq_some_iff.mp H
    obtain ⟨t193,A70,H⟩:=H
    replace H:(some (wrap64 ((wrap64 (64 * (ji4))) + t193))) = some r:=H
    have A7:=Aside0.mk A70
    clear A70
    obtain rfl:=Option.some.inj H
    go_enter Try.func94,Try.ntmps94
    go_wp2_with (first | ((with_reducible refine gate_callee (f:=127) rfl ?_);refine goesL_ (some 5) rfl rfl Try.func127 (by kernel_rfl) rfl #[.slice A0 l0.length c0] rfl vA ?_;(with_reducible refine (nat_least.calls k _ _ l0 t191 _ ?side1 ?side2 A2.out).mono ?_);(case side1 => repeat (first | exact HR0.out | (with_reducible refine Kd.C_alloc ?_ _) | (with_reducible refine Kd.C_drewN ?_ _) | (with_reducible refine Kd.C_drew ?_)));(case side2 => exact HC0.out);rintro e w' ⟨rfl,⟨nd,rfl⟩⟩;refine ⟨_,rfl,?_⟩;have p192:0≤((ji4):Int):=of_decide_eq_true vD;have q192:(ji4) < (l0.length:Int):=of_decide_eq_true vD;obtain ⟨ad192,e192,hx192_0⟩:=Kd.at_int HR0.out (ji4) p192 q192;cases e192;replace p192:=eq_true p192;replace q192:=eq_true q192) | ((with_reducible refine gate_callee (f:=128) rfl ?_);refine goesL_ (some 16) rfl rfl Try.func128 (by kernel_rfl) rfl #[.int .u64 (rd l0 (ji4))] rfl (by (try simp only [List.map_toArray,List.map_cons,List.map_nil]);first | done | (simp only [hji4];rfl) | rfl | (simp only [List.length_drop,List.length_take];rfl)) ?_;(with_reducible refine (bits_Len64.calls (rd l0 (ji4)) t193 _ A7.out).mono ?_);rintro e w' ⟨rfl,⟨nd,rfl⟩⟩;refine ⟨_,rfl,?_⟩))
    go_ret
    exact ⟨by first | rfl | (simp;done) | (simp only [← hji4] <;> (first | rfl | simp)) | (simp [*];done),by repeat (first | exact Drawn0.refl _ | apply Drawn0.step)⟩
   ·
    rw [if_neg c6] at H
    exact absurd H (by simp)
  ·
   rw [if_neg c5] at H
   exact absurd H (by simp)
def sconceref03_Shl.l0:Nat→Int→List Int→Int→List Int→Int→Int→Option (List Int)
 | 0,_,_,_,_,_,_ => none
 | k + 1,x1,x5,x6,x18,x19,x20 => if x20 < x19 then (if 0≤x20 then (if x20 < (x18.length:Int) then (if 0≤(IntKind.u64.wrap (Int.tmod x1 32)) then (if x5.length < 35184372088832 then (sconceref03_Shl.l0 k x1 (x5 ++ [(Go.bits .or .u64 x6 (shl .u64 (IntKind.u64.wrap (rd x18 x20)) (IntKind.u64.wrap (Int.tmod x1 32)))) % 4294967296]) ((Go.bits .or .u64 x6 (shl .u64 (IntKind.u64.wrap (rd x18 x20)) (IntKind.u64.wrap (Int.tmod x1 32)))) / 4294967296) x18 x19 (wrap64 (x20 + 1))) else (none)) else (none)) else (none)) else (none)) else (if x5.length < 35184372088832 then ((sconceref03_trim.f k (x5 ++ [(x6) % 4294967296])).bind fun t204 => (some t204)) else (none))
def sconceref03_Shl.f (k:Nat) (l0:List Int) (a1:Int):Option (List Int):=if 0≤(wrap64 (Int.tdiv a1 32)) then (if (wrap64 (Int.tdiv a1 32))≤(wrap64 ((wrap64 ((wrap64 (Int.tdiv a1 32)) + (l0.length:Int))) + 1)) then (if (wrap64 ((wrap64 ((wrap64 (Int.tdiv a1 32)) + (l0.length:Int))) + 1):Int).toNat≤70368744177664 then (sconceref03_Shl.l0 k a1 (List.replicate (wrap64 (Int.tdiv a1 32):Int).toNat 0) 0 l0 (l0.length:Int) 0) else (none)) else (none)) else (none)
theorem sconceref03_Shl.mono_l:∀ k,(∀ y0 y1 y2 y3 y4 y5,LeO (sconceref03_Shl.l0 k y0 y1 y2 y3 y4 y5) (sconceref03_Shl.l0 (k + 1) y0 y1 y2 y3 y4 y5))
 | 0 => fun _ _ _ _ _ _ r h => by simp [sconceref03_Shl.l0] at h
 | k + 1 => by
  have ih0:=sconceref03_Shl.mono_l k
  ·
   intro y0 y1 y2 y3 y4 y5
   unfold sconceref03_Shl.l0
   repeat' first
   | (with_reducible exact ih0 _ _ _ _ _ _)
   | (with_reducible exact sconceref03_trim.mono _ _)
   | (with_reducible exact LeO.refl _)
   | (with_reducible exact LeO.none _)
   | (with_reducible refine LeO.ite ?_ ?_)
   | (with_reducible refine LeO.bind ?_ (fun _ => ?_))
   | exact ih0 _ _ _ _ _ _
   | exact sconceref03_trim.mono _ _
   | exact LeO.none _
   | refine LeO.ite ?_ ?_
   | refine LeO.bind ?_ (fun _ => ?_)
theorem sconceref03_Shl.mono:∀ a0 a1 k,LeO (sconceref03_Shl.f k a0 a1) (sconceref03_Shl.f (k + 1) a0 a1):=by
 intro a0 a1 k
 have ih0:=sconceref03_Shl.mono_l k
 unfold sconceref03_Shl.f
 repeat' first
   | (with_reducible exact ih0 _ _ _ _ _ _)
   | (with_reducible exact sconceref03_trim.mono _ _)
   | (with_reducible exact LeO.refl _)
   | (with_reducible exact LeO.none _)
   | (with_reducible refine LeO.ite ?_ ?_)
   | (with_reducible refine LeO.bind ?_ (fun _ => ?_))
   | exact ih0 _ _ _ _ _ _
   | exact sconceref03_trim.mono _ _
   | exact LeO.none _
   | refine LeO.ite ?_ ?_
   | refine LeO.bind ?_ (fun _ => ?_)
theorem sconceref03_Shl.calls (k:Nat) (A0:Option Addr) (c0:Nat) (l0:List Int) (a1:Int) (r:List Int) (w:World) (hr0:Kd.C (Kd.int .u32) w A0 l0.length l0) (hc0:l0.length≤c0) (h:sconceref03_Shl.f k l0 a1 = some r) :
  Calls Try.prog 102 #[.slice A0 l0.length c0,.int .i64 a1] w fun e w' => ∃ v0_:Value,e = .returned (v0_)∧Kd.V (Kd.int .u32) 83 w' w.heap.size (fun k_ => (w.heap.size≤k_)) v0_ r∧Below w.heap.size w w':=by
 have HR0:=Aside0.mk hr0
 have HC0:=Aside0.mk hc0
 clear hr0 hc0
 have HB:=Aside0.mk (Below.refl w.heap.size w)
 have H:(if 0≤(wrap64 (Int.tdiv a1 32)) then (if (wrap64 (Int.tdiv a1 32))≤(wrap64 ((wrap64 ((wrap64 (Int.tdiv a1 32)) + (l0.length:Int))) + 1)) then (if (wrap64 ((wrap64 ((wrap64 (Int.tdiv a1 32)) + (l0.length:Int))) + 1):Int).toNat≤70368744177664 then (sconceref03_Shl.l0 k a1 (List.replicate (wrap64 (Int.tdiv a1 32):Int).toNat 0) 0 l0 (l0.length:Int) 0) else (none)) else (none)) else (none)) = some r:=h
 clear h
 obtain ⟨ji3,hji3⟩:∃ j_:Int,(wrap64 (Int.tdiv a1 32)) = j_:=⟨_,rfl⟩
 replace H:(if 0≤(ji3) then (if (ji3)≤(wrap64 ((wrap64 ((ji3) + (l0.length:Int))) + 1)) then (if (wrap64 ((wrap64 ((ji3) + (l0.length:Int))) + 1):Int).toNat≤70368744177664 then (sconceref03_Shl.l0 k a1 (List.replicate (ji3:Int).toNat 0) 0 l0 (l0.length:Int) 0) else (none)) else (none)) else (none)) = some r:=by first | (rw [hji3] at H;exact H) | (simp only [hji3] at H ⊢;exact H)
 have hji3w:(IntKind.i64.wrap (Int.tdiv a1 32)) = ji3:=(i64_w _).trans hji3
 by_cases c4:0≤(ji3)
 ·
  rw [if_pos c4] at H
  have c4b0:=eq_true c4
  have c4b1:decide (0≤(ji3)) = true:=decide_eq_true c4
  clear c4
  by_cases c5:(ji3)≤(wrap64 ((wrap64 ((ji3) + (l0.length:Int))) + 1))
  ·
   rw [if_pos c5] at H
   have c5b0:=eq_true c5
   have c5b1:decide ((ji3)≤(wrap64 ((wrap64 ((ji3) + (l0.length:Int))) + 1))) = true:=decide_eq_true c5
   by_cases c6:(wrap64 ((wrap64 ((ji3) + (l0.length:Int))) + 1):Int).toNat≤70368744177664
   ·
    rw [if_pos c6] at H
    have c6b0:=eq_true c6
    have c6b1:decide ((wrap64 ((wrap64 ((ji3) + (l0.length:Int))) + 1):Int).toNat≤70368744177664) = true:=decide_eq_true c6
    obtain ⟨y194,hy194⟩:∃ y_:List Int,y_ = (List.replicate (ji3:Int).toNat 0):=⟨_,rfl⟩
    replace H:(sconceref03_Shl.l0 k a1 y194 0 l0 (l0.length:Int) 0) = some r:=by first | (rw [hy194];with_reducible exact H) | (have H2_:=(Option.bind_some _ _).symm.trans H;rw [hy194];with_reducible exact H2_) | (have H2_:=(Option.bind_some _ _).symm.trans H;with_reducible exact H2_) | with_reducible exact H | (rw [hy194];exact H) | exact H
    have Ny194:=Aside0.mk hy194
    clear hy194
    have H':=Aside0.mk H
    clear H
    go_enter Try.func102,Try.ntmps102
    go_wp2_with (first | ((with_reducible refine gate_dst (N:=17) rfl ?_);refine R_makec .u32 _ 83 rfl (N:=17) rfl 48 _ _ rfl ji3 (wrap64 ((wrap64 ((ji3) + (l0.length:Int))) + 1)) rfl rfl Try.underlying48 4 info83 (by omega) (ok:=fun _ => True) trivial (of_decide_eq_true vD) (of_decide_eq_true vD) (Nat.le_trans (Nat.mul_le_mul_right _ (of_decide_eq_true vD:(wrap64 ((wrap64 ((ji3) + (l0.length:Int))) + 1)).toNat≤70368744177664)) (by omega)) (Below.refl _ _) (Nat.le_refl _) ?_;intro v195 w7 ho8 hb hg_ hnew_;clear hg_ hnew_;(first | rw [← Ny194.out] at ho8 | (simp only [Int.reduceToNat] at ho8;rw [← Ny194.out] at ho8));have n0_:=Aside0.mk (Kd.R_lower (Kd.R_newM (M:=fun k_ => (w.heap.size≤k_)) ho8 (below_size (vB HB.out)) (fun k_ h_ => h_)) (below_size (vB HB.out)));have n1_:=Aside0.mk (below_step (vB HB.out) hb);clear HB;have HO196:=n0_;have HB:=n1_;clear n0_ n1_;clear hb ho8))
    go_loopg [5,6,20] k (fun kq v5 v6 v20 w' => ∃ (x5_1:List Int) (x6_1:Int) (x20_1:Int),v6 = .int .u64 x6_1∧v20 = .int .i64 x20_1∧Aside0 (sconceref03_Shl.l0 kq a1 x5_1 x6_1 l0 (l0.length:Int) x20_1 = some r)∧Aside0 (kq≤k)∧Aside0 (Kd.R (Kd.int .u32) 83 w' w.heap.size (fun k_ => (w.heap.size≤k_)) v5 x5_1)∧Aside0 (Below w.heap.size w w'))
    case atStart => exact ⟨(y194),(0),(0),(by first | rfl | (simp;done) | (simp [*];done)),(by first | rfl | (simp;done) | (simp [*];done)),H',⟨Nat.le_refl _⟩,⟨by (with_reducible repeat (first | apply Kd.R_alloc | apply Kd.R_drewN | apply Kd.R_drew));exact Kd.R_mono HO196.out (fun _ hk => hk.1)⟩,⟨by repeat (first | (with_reducible first | exact HB.out | apply below_alloc | apply pw_below_drewN | apply below_drew1) | exact HB.out)⟩⟩
    case round =>
     clear H'
     try clear c1
     try clear p2
     try clear c4
     try clear c4b0
     try clear c4b1
     try clear c5
     try clear c5b0
     try clear c5b1
     try clear c6
     try clear c6b0
     try clear c6b1
     try clear p6
     obtain ⟨x5_1,x6_1,x20_1,rfl,rfl,HA,HK1,HO_5,HB⟩:=hrel
     cases gk with
     | zero => exact absurd HA.out (by simp [sconceref03_Shl.l0])
     | succ k1 =>
      have H:=HA.out
      clear HA
      simp only [sconceref03_Shl.l0] at H
      by_cases c9:x20_1 < (l0.length:Int)
      ·
       rw [if_pos c9] at H
       have c9b0:decide (x20_1 < (l0.length:Int)) = true:=decide_eq_true c9
       clear c9
       by_cases c10:0≤x20_1
       ·
        rw [if_pos c10] at H
        have c10b0:decide (0≤x20_1) = true:=decide_eq_true c10
        clear c10
        by_cases c11:x20_1 < (l0.length:Int)
        ·
         rw [if_pos c11] at H
         have c11b0:decide (x20_1 < (l0.length:Int)) = true:=decide_eq_true c11
         clear c11
         obtain ⟨ji12,hji12⟩:∃ j_:Int,(IntKind.u64.wrap (Int.tmod a1 32)) = j_:=⟨_,rfl⟩
         replace H:(if 0≤(ji12) then (if x5_1.length < 35184372088832 then (sconceref03_Shl.l0 k1 a1 (x5_1 ++ [(Go.bits .or .u64 x6_1 (shl .u64 (IntKind.u64.wrap (rd l0 x20_1)) (ji12))) % 4294967296]) ((Go.bits .or .u64 x6_1 (shl .u64 (IntKind.u64.wrap (rd l0 x20_1)) (ji12))) / 4294967296) l0 (l0.length:Int) (wrap64 (x20_1 + 1))) else (none)) else (none)) = some r:=by first | (rw [hji12] at H;exact H) | (simp only [hji12] at H ⊢;exact H)
         by_cases c13:0≤(ji12)
         ·
          rw [if_pos c13] at H
          have c13b0:=eq_true c13
          have c13b1:decide (0≤(ji12)) = true:=decide_eq_true c13
          clear c13
          obtain ⟨ji14,hji14⟩:∃ j_:Int,(shl .u64 (IntKind.u64.wrap (rd l0 x20_1)) (ji12)) = j_:=⟨_,rfl⟩
          replace H:(if x5_1.length < 35184372088832 then (sconceref03_Shl.l0 k1 a1 (x5_1 ++ [(Go.bits .or .u64 x6_1 (ji14)) % 4294967296]) ((Go.bits .or .u64 x6_1 (ji14)) / 4294967296) l0 (l0.length:Int) (wrap64 (x20_1 + 1))) else (none)) = some r:=by first | (rw [hji14] at H;exact H) | (simp only [hji14] at H ⊢;exact H)
          have hji14_:(IntKind.u64.wrap ((IntKind.u64.wrap (rd l0 x20_1)) * 2 ^ min (ji12).toNat 64)) = ji14:=hji14
          have hji14z:(ji12)≤64→(IntKind.u64.wrap ((IntKind.u64.wrap (rd l0 x20_1)) * 2 ^ (ji12).toNat)) = ji14:=shl_small hji14
          by_cases c15:x5_1.length < 35184372088832
          ·
           rw [if_pos c15] at H
           have LMc15:=Aside0.mk c15
           clear c15
           obtain ⟨y198,hy198⟩:∃ y_:List Int,y_ = (x5_1 ++ [(Go.bits .or .u64 x6_1 (ji14)) % 4294967296]):=⟨_,rfl⟩
           replace H:(sconceref03_Shl.l0 k1 a1 y198 ((Go.bits .or .u64 x6_1 (ji14)) / 4294967296) l0 (l0.length:Int) (wrap64 (x20_1 + 1))) = some r:=by first | (rw [hy198];with_reducible exact H) | (have H2_:=(Option.bind_some _ _).symm.trans H;rw [hy198];with_reducible exact H2_) | (have H2_:=(Option.bind_some _ _).symm.trans H;with_reducible exact H2_) | with_reducible exact H | (rw [hy198];exact H) | exact H
           have Ny198:=Aside0.mk hy198
           clear hy198
           have H':=Aside0.mk H
           clear H
           have p197:0≤(x20_1:Int):=of_decide_eq_true vD
           have q197:x20_1 < (l0.length:Int):=of_decide_eq_true vD
           obtain ⟨ad197,e197,hx197_0⟩:=Kd.at_int HR0.out x20_1 p197 q197
           cases e197
           replace hx197_0:=(HB.out.cell (World.block_lt_of_cell? w _ hx197_0)).trans hx197_0
           replace p197:=eq_true p197
           replace q197:=eq_true q197
           go_wp2_with (first | ((with_reducible refine gate_builtin (b:=.append) (xs:=#[.tmp 32,.tmp 35]) rfl ?_);at_builtin;refine Kd.R_append (Kd.int .u32) (w0:=w) w.heap.size rfl (.tmp 32) (.tmp 35) 48 83 (.int .u32 0) 4 rfl Try.underlying48 info83 rfl (by decide) (by omega) u5 x5_1 ((Go.bits .or .u64 x6_1 (ji14)) % 4294967296) [.int .u32 ((Go.bits .or .u64 x6_1 (ji14)) % 4294967296)] (fun k_ => (w.heap.size≤k_)) (fun _ => False) rfl rfl ?aP (fun _ hk => hk.elim) ?aF ?aO ?aB ?aS ?aL ?_;(case aP => exact rfl);(case aB => exact (vB HB.out));(case aF => exact (fun k_ hk => (Nat.le_trans (below_size (vB HB.out)) hk)));(case aO => exact (vR HO_5.out));(case aS => exact (below_size (vB HB.out)));(case aL => have:=LMc15.out;omega);intro v199 w16 ho hb hg hat;rw [← Ny198.out] at ho;have n0_:=Aside0.mk (hb);have n1_:=Aside0.mk (ho);clear HB;clear HO_5;have HB:=n0_;have HO200:=n1_;clear n0_ n1_;clear ho hb hg hat))
           go_roundg k1
           case measure => have:=HK1.out;omega
           case rel => exact ⟨(y198),((Go.bits .or .u64 x6_1 (ji14)) / 4294967296),(wrap64 (x20_1 + 1)),(by first | rfl | (simp;done) | (simp only [← hji14] <;> (first | rfl | simp)) | (simp [*];done)),(by first | rfl | (simp;done) | (simp [*];done)),H',⟨by have:=HK1.out;omega⟩,⟨by (with_reducible repeat (first | apply Kd.R_alloc | apply Kd.R_drewN | apply Kd.R_drew));exact HO200.out⟩,⟨by repeat (first | (with_reducible first | exact HB.out | apply below_alloc | apply pw_below_drewN | apply below_drew1) | exact HB.out)⟩⟩
          ·
           rw [if_neg c15] at H
           exact absurd H (by simp)
         ·
          rw [if_neg c13] at H
          exact absurd H (by simp)
        ·
         rw [if_neg c11] at H
         exact absurd H (by simp)
       ·
        rw [if_neg c10] at H
        exact absurd H (by simp)
      ·
       rw [if_neg c9] at H
       have c9b0:decide (x20_1 < (l0.length:Int)) = false:=decide_eq_false c9
       clear c9
       by_cases c17:x5_1.length < 35184372088832
       ·
        rw [if_pos c17] at H
        have LMc17:=Aside0.mk c17
        clear c17
        obtain ⟨y201,hy201⟩:∃ y_:List Int,y_ = (x5_1 ++ [(x6_1) % 4294967296]):=⟨_,rfl⟩
        replace H:((sconceref03_trim.f k1 y201).bind fun t204 => (some t204)) = some r:=by first | (rw [hy201];with_reducible exact H) | (have H2_:=(Option.bind_some _ _).symm.trans H;rw [hy201];with_reducible exact H2_) | (have H2_:=(Option.bind_some _ _).symm.trans H;with_reducible exact H2_) | with_reducible exact H | (rw [hy201];exact H) | exact H
        have Ny201:=Aside0.mk hy201
        clear hy201
        replace H:=Option.bind_eq_some_iff.mp H
        obtain ⟨t204,A180,H⟩:=H
        replace H:(some t204) = some r:=H
        have A18:=Aside0.mk A180
        clear A180
        obtain rfl:=Option.some.inj H
        go_wp2_with (first | ((with_reducible refine gate_builtin (b:=.append) (xs:=#[.tmp 40,.tmp 43]) rfl ?_);at_builtin;refine Kd.R_append (Kd.int .u32) (w0:=w) w.heap.size rfl (.tmp 40) (.tmp 43) 48 83 (.int .u32 0) 4 rfl Try.underlying48 info83 rfl (by decide) (by omega) u5 x5_1 ((x6_1) % 4294967296) [.int .u32 ((x6_1) % 4294967296)] (fun k_ => (w.heap.size≤k_)) (fun _ => False) rfl rfl ?aP (fun _ hk => hk.elim) ?aF ?aO ?aB ?aS ?aL ?_;(case aP => exact rfl);(case aB => exact (vB HB.out));(case aF => exact (fun k_ hk => (Nat.le_trans (below_size (vB HB.out)) hk)));(case aO => exact (vR HO_5.out));(case aS => exact (below_size (vB HB.out)));(case aL => have:=LMc17.out;omega);intro v202 w19 ho hb hg hat;rw [← Ny201.out] at ho;have n0_:=Aside0.mk (hb);have n1_:=Aside0.mk (ho);clear HB;clear HO_5;have HB:=n0_;have HO203:=n1_;clear n0_ n1_;clear ho hb hg hat;obtain ⟨Ao20,co20,eo20⟩:=Kd.R_slice HO203.out;subst eo20) | ((with_reducible refine gate_callee (f:=85) rfl ?_);refine goesL_ (some 45) rfl rfl Try.func85 (by kernel_rfl) rfl #[.slice Ao20 y201.length co20] rfl vA ?_;(with_reducible refine (sconceref03_trim.calls k1 (fun k_ => some k_ = (.slice Ao20 y201.length co20:Value).ownBlock) _ _ y201 t204 _ ?side1 A18.out).mono ?_);(case side1 => exact Kd.R_V (Kd.R_tight rfl (HO203.out)));rintro e w21 ⟨v205,rfl,ho0,hb⟩;refine ⟨_,rfl,?_⟩;have n0_:=Aside0.mk (Kd.R_below (vR HO203.out) hb);have n1_:=Aside0.mk (Kd.V_lower (Kd.V_mono (ok':=fun k_ => (w.heap.size≤k_)) ho0 (fun k_ hk_ => Or.elim hk_ (fun hs_ => ((HO203.out).1 k_ hs_.symm)) (fun hn_ => (Nat.le_trans (below_size (vB HB.out)) hn_)))) (below_size (vB HB.out)));have n2_:=Aside0.mk (below_step (vB HB.out) hb);clear HO203;clear HB;have HO203:=n0_;have HO206:=n1_;have HB:=n2_;clear n0_ n1_ n2_;(try clear hb);(try clear hb2);(try clear hk);(try clear hi);(try clear ho0)))
        go_ret
        exact ⟨_,by first | rfl | (simp [errW_none,errW_some] <;> rfl) | (simp only [← hji3];first | rfl | (simp [errW_none,errW_some] <;> rfl)) | (simp [*,errW_none,errW_some] <;> rfl),by (with_reducible repeat (first | apply Kd.V_alloc | apply Kd.V_drewN | apply Kd.V_drew));exact HO206.out,by repeat (first | (with_reducible first | exact HB.out | apply below_alloc | apply pw_below_drewN | apply below_drew1) | exact HB.out)⟩
       ·
        rw [if_neg c17] at H
        exact absurd H (by simp)
   ·
    rw [if_neg c6] at H
    exact absurd H (by simp)
  ·
   rw [if_neg c5] at H
   exact absurd H (by simp)
 ·
  rw [if_neg c4] at H
  exact absurd H (by simp)
def nat_Word.f (a0:Int) (a1:Int):Option (List Int):=if 0≤(mn (mx a1 1) 300) then (if (mn (mx a1 1) 300:Int).toNat≤35184372088832 then ((some (List.replicate (mn (mx a1 1) 300:Int).toNat 0:List Int)).bind fun y207 => (if 0 < (y207.length:Int) then (some (y207.set (0:Int).toNat a0)) else (none))) else (none)) else (none)
theorem nat_Word.calls (a0:Int) (a1:Int) (r:List Int) (w:World) (h:nat_Word.f a0 a1 = some r) :
  Calls Try.prog 116 #[.int .u64 a0,.int .i64 a1] w fun e w' => ∃ v0_:Value,e = .returned (v0_)∧Kd.R (Kd.int .u64) 24 w' w.heap.size (fun _ => True) v0_ r∧Below w.heap.size w w':=by
 have HB:=Aside0.mk (Below.refl w.heap.size w)
 have H:(if 0≤(mn (mx a1 1) 300) then (if (mn (mx a1 1) 300:Int).toNat≤35184372088832 then ((some (List.replicate (mn (mx a1 1) 300:Int).toNat 0:List Int)).bind fun y207 => (if 0 < (y207.length:Int) then (some (y207.set (0:Int).toNat a0)) else (none))) else (none)) else (none)) = some r:=h
 clear h
 obtain ⟨ji3,hji3⟩:∃ j_:Int,(mx a1 1) = j_:=⟨_,rfl⟩
 replace H:(if 0≤(mn (ji3) 300) then (if (mn (ji3) 300:Int).toNat≤35184372088832 then ((some (List.replicate (mn (ji3) 300:Int).toNat 0:List Int)).bind fun y207 => (if 0 < (y207.length:Int) then (some (y207.set (0:Int).toNat a0)) else (none))) else (none)) else (none)) = some r:=by first | (rw [hji3] at H;exact H) | (simp only [hji3] at H ⊢;exact H)
 (try (have hji3l:1≤ji3:=by (rw [← hji3];unfold mx;(repeat' split) <;> omega)))
 (try (have hji3m:0≤ji3:=by omega))
 have hji3_:(if a1 < 1 then 1 else a1) = ji3:=hji3
 obtain ⟨ji4,hji4⟩:∃ j_:Int,(mn (ji3) 300) = j_:=⟨_,rfl⟩
 replace H:(if 0≤(ji4) then (if (ji4:Int).toNat≤35184372088832 then ((some (List.replicate (ji4:Int).toNat 0:List Int)).bind fun y207 => (if 0 < (y207.length:Int) then (some (y207.set (0:Int).toNat a0)) else (none))) else (none)) else (none)) = some r:=by first | (rw [hji4] at H;exact H) | (simp only [hji4] at H ⊢;exact H)
 have hji4_:(if 300 < (ji3) then 300 else (ji3)) = ji4:=hji4
 by_cases c5:0≤(ji4)
 ·
  rw [if_pos c5] at H
  have c5b0:=eq_true c5
  have c5b1:decide (0≤(ji4)) = true:=decide_eq_true c5
  clear c5
  by_cases c6:(ji4:Int).toNat≤35184372088832
  ·
   rw [if_pos c6] at H
   have c6b0:=eq_true c6
   have c6b1:decide ((ji4:Int).toNat≤35184372088832) = true:=decide_eq_true c6
   clear c6
   obtain ⟨y207,hy207⟩:∃ y_:List Int,y_ = (List.replicate (ji4:Int).toNat 0):=⟨_,rfl⟩
   replace H:(if 0 < (y207.length:Int) then (some (y207.set (0:Int).toNat a0)) else (none)) = some r:=by first | (rw [hy207];with_reducible exact H) | (have H2_:=(Option.bind_some _ _).symm.trans H;rw [hy207];with_reducible exact H2_) | (have H2_:=(Option.bind_some _ _).symm.trans H;with_reducible exact H2_) | with_reducible exact H | (rw [hy207];exact H) | exact H
   have Ny207:=Aside0.mk hy207
   clear hy207
   by_cases c7:0 < (y207.length:Int)
   ·
    rw [if_pos c7] at H
    have c7b0:decide (0 < (y207.length:Int)) = true:=decide_eq_true c7
    have c7b1:decide (0 < y207.length) = true:=decide_eq_true (by omega)
    clear c7
    obtain ⟨y210,hy210⟩:∃ y_:List Int,y_ = (y207.set (0:Int).toNat a0):=⟨_,rfl⟩
    replace H:(some y210) = some r:=by first | (rw [hy210];with_reducible exact H) | (have H2_:=(Option.bind_some _ _).symm.trans H;rw [hy210];with_reducible exact H2_) | (have H2_:=(Option.bind_some _ _).symm.trans H;with_reducible exact H2_) | with_reducible exact H | (rw [hy210];exact H) | exact H
    have Ny210:=Aside0.mk hy210
    clear hy210
    obtain rfl:=Option.some.inj H
    go_enter Try.func116,Try.ntmps116
    go_wp2_with (first | ((with_reducible refine gate_dst (N:=9) rfl ?_);refine Kd.R_make (Kd.int .u64) _ 24 rfl (N:=9) rfl 23 _ _ rfl ji4 rfl rfl Try.underlying23 (.int .u64 0) 8 info24 rfl (by decide) (by omega) 0 (ok:=fun _ => True) (okp:=fun _ => True) rfl (fun _ hk => hk) trivial (of_decide_eq_true vD) (Nat.le_trans (Nat.mul_le_mul_right _ (of_decide_eq_true vD:ji4.toNat≤35184372088832)) (by omega)) (Below.refl _ _) (Nat.le_refl _) ?_;intro v208 w9 ho10 hb hg_ hnew_;clear hg_ hnew_;(first | rw [← Ny207.out] at ho10 | (simp only [Int.reduceToNat] at ho10;rw [← Ny207.out] at ho10));have n0_:=Aside0.mk (Kd.R_lower ho10 (below_size (vB HB.out)));have n1_:=Aside0.mk (below_step (vB HB.out) hb);clear HB;have HO209:=n0_;have HB:=n1_;clear n0_ n1_;clear hb ho10;have p8:0≤(0:Int):=(by omega);have q8:(0:Int) < ((y207.length:Int):Int):=of_decide_eq_true vD;have qi8:(0 < y207.length) = True:=eq_true (by omega);obtain ⟨go8,co8,eo8,gb8,gl8,cl8,HG8⟩:=Kd.R_form HO209.out (by omega);(first | cases eo8 | (injection eo8 with ea_ en_ ec_;(first | subst ea_ | (injection ea_ with ea_;subst ea_));subst ec_;clear en_));have GB8:=Aside0.mk gb8;have GG8:=Aside0.mk HG8;clear gb8 gl8 HG8;obtain ⟨hx8_0,hf8_0⟩:=Kd.R_celln 0 HO209.out (0:Int) p8 q8;(try rw [show ((0:Int)).toNat = 0 from rfl] at hx8_0);(try simp only [Nat.reduceMul,Nat.zero_mul,Nat.zero_add,Nat.reduceAdd] at hx8_0);(try rw [show ((0:Int)).toNat = 0 from rfl] at hf8_0);(try simp only [Nat.reduceMul,Nat.zero_mul,Nat.zero_add,Nat.reduceAdd] at hf8_0);replace p8:=eq_true p8;replace q8:=eq_true q8;obtain ⟨hy11_,hz11_⟩:=Kd.R_celln 0 HO209.out (0:Int) (by omega) (of_decide_eq_true vD);(try simp only [Int.reduceToNat,Int.toNat_zero,Int.toNat_ofNat,Nat.reduceMul,Nat.zero_mul,Nat.zero_add] at hy11_ hz11_);(try rw [show ((0:Int)).toNat = 0 from rfl] at hy11_);(try rw [show ((0:Int)).toNat = 0 from rfl] at hz11_);have HP11:=Kd.R_putg HO209.out (0:Int) a0) | ((with_reducible refine gate_store (t:=24) (p:=12) rfl ?_);refine store_event (t:=24) (p:=12) (v:=?vo_w12) (w1:=(w9.setCell ⟨go8,(0:Int).toNat,none⟩ (.int .u64 a0))) ?hg ?ho ?hn ?hr ?_;(case ho => rfl);(case hg => rfl);(case hn => rfl);(case hr => first | (go_simp;done) | (go_simp;rfl));intro w12 hw;have hg:w9.grownBy w12 (some go8):=(by rw [hw];exact HP11.2);have hp_:Kd.R (Kd.int .u64) 24 w12 w.heap.size (fun _ => True) (.slice (some ⟨go8,0,none⟩) y207.length co8) y210:=(by rw [hw,Ny210.out];exact HP11.1);clear HP11;have n0_:=Aside0.mk (hp_);have n1_:=Aside0.mk ((by rw [hw];exact below_set (HB.out) GB8.out:Below w.heap.size w w12));clear HO209;clear HB;have HO209:=n0_;have HB:=n1_;clear n0_ n1_;clear hg hw hp_))
    go_ret
    exact ⟨_,by first | rfl | (simp [errW_none,errW_some] <;> rfl) | (simp only [← hji3,← hji4];first | rfl | (simp [errW_none,errW_some] <;> rfl)) | (simp [*,errW_none,errW_some] <;> rfl),by (with_reducible repeat (first | apply Kd.R_alloc | apply Kd.R_drewN | apply Kd.R_drew));exact HO209.out,by repeat (first | (with_reducible first | exact HB.out | apply below_alloc | apply pw_below_drewN | apply below_drew1) | exact HB.out)⟩
   ·
    rw [if_neg c7] at H
    exact absurd H (by simp)
  ·
   rw [if_neg c6] at H
   exact absurd H (by simp)
 ·
  rw [if_neg c5] at H
  exact absurd H (by simp)
def sconceref03_divSmall.l0:Nat→List Int→Int→List Int→Int→Int→Option (List Int × List Int)
 | 0,_,_,_,_,_ => none
 | k + 1,x0,x1,x6,x7,x8 => if x8 ≥ 0 then (if 0≤x8 then (if x8 < (x0.length:Int) then (if (IntKind.u64.wrap (x1)) = 0 then (none) else (if x8 < (x6.length:Int) then (sconceref03_divSmall.l0 k x0 x1 (x6.set (x8:Int).toNat ((IntKind.u64.wrap (Int.tdiv (Go.bits .or .u64 (IntKind.u64.wrap (x7 * 4294967296)) (IntKind.u64.wrap (rd x0 x8))) (IntKind.u64.wrap (x1)))) % 4294967296)) (Int.tmod (Go.bits .or .u64 (IntKind.u64.wrap (x7 * 4294967296)) (IntKind.u64.wrap (rd x0 x8))) (IntKind.u64.wrap (x1))) (wrap64 (x8 - 1))) else (none))) else (none)) else (none)) else ((sconceref03_trim.f k x6).bind fun t216 => ((sconceref03_Small.f k x7).bind fun t219 => (some (t216,t219))))
def sconceref03_divSmall.f (k:Nat) (l0:List Int) (a1:Int):Option (List Int × List Int):=if 0≤(l0.length:Int) then (if ((l0.length:Int):Int).toNat≤70368744177664 then (sconceref03_divSmall.l0 k l0 a1 (List.replicate ((l0.length:Int):Int).toNat 0) 0 (wrap64 ((l0.length:Int) - 1))) else (none)) else (none)
theorem sconceref03_divSmall.calls (k:Nat) (A0:Option Addr) (c0:Nat) (l0:List Int) (a1:Int) (r1:List Int) (r2:List Int) (w:World) (hr0:Kd.C (Kd.int .u32) w A0 l0.length l0) (hc0:l0.length≤c0) (h:sconceref03_divSmall.f k l0 a1 = some (r1,r2)) :
  Calls Try.prog 138 #[.slice A0 l0.length c0,.int .u32 a1] w fun e w' => ∃ v0_ v1_:Value,e = .returned (.tuple #[v0_,v1_])∧Kd.V (Kd.int .u32) 83 w' w.heap.size (fun k_ => (w.heap.size≤k_)) v0_ r1∧Kd.V (Kd.int .u32) 83 w' w.heap.size (fun k_ => (w.heap.size≤k_)) v1_ r2∧Below w.heap.size w w':=by
 have HR0:=Aside0.mk hr0
 have HC0:=Aside0.mk hc0
 clear hr0 hc0
 have HB:=Aside0.mk (Below.refl w.heap.size w)
 have H:(if 0≤(l0.length:Int) then (if ((l0.length:Int):Int).toNat≤70368744177664 then (sconceref03_divSmall.l0 k l0 a1 (List.replicate ((l0.length:Int):Int).toNat 0) 0 (wrap64 ((l0.length:Int) - 1))) else (none)) else (none)) = some (r1,r2):=h
 clear h
 by_cases c3:0≤(l0.length:Int)
 ·
  rw [if_pos c3] at H
  have c3b0:=eq_true c3
  have c3b1:decide (0≤(l0.length:Int)) = true:=decide_eq_true c3
  clear c3
  by_cases c4:((l0.length:Int):Int).toNat≤70368744177664
  ·
   rw [if_pos c4] at H
   have c4b0:=eq_true c4
   have c4b1:decide (((l0.length:Int):Int).toNat≤70368744177664) = true:=decide_eq_true c4
   clear c4
   obtain ⟨y211,hy211⟩:∃ y_:List Int,y_ = (List.replicate ((l0.length:Int):Int).toNat 0):=⟨_,rfl⟩
   replace H:(sconceref03_divSmall.l0 k l0 a1 y211 0 (wrap64 ((l0.length:Int) - 1))) = some (r1,r2):=by first | (rw [hy211];with_reducible exact H) | (have H2_:=(Option.bind_some _ _).symm.trans H;rw [hy211];with_reducible exact H2_) | (have H2_:=(Option.bind_some _ _).symm.trans H;with_reducible exact H2_) | with_reducible exact H | (rw [hy211];exact H) | exact H
   have Ny211:=Aside0.mk hy211
   clear hy211
   have H':=Aside0.mk H
   clear H
   go_enter Try.func138,Try.ntmps138
   go_wp2_with (first | ((with_reducible refine gate_dst (N:=11) rfl ?_);refine Kd.R_make (Kd.int .u32) _ 83 rfl (N:=11) rfl 48 _ _ rfl (l0.length:Int) rfl rfl Try.underlying48 (.int .u32 0) 4 info83 rfl (by decide) (by omega) 0 (ok:=fun _ => True) (okp:=fun _ => True) rfl (fun _ hk => hk) trivial (of_decide_eq_true vD) (Nat.le_trans (Nat.mul_le_mul_right _ (of_decide_eq_true vD:(l0.length:Int).toNat≤70368744177664)) (by omega)) (Below.refl _ _) (Nat.le_refl _) ?_;intro v212 w5 ho6 hb hg_ hnew_;clear hg_ hnew_;(first | rw [← Ny211.out] at ho6 | (simp only [Int.reduceToNat] at ho6;rw [← Ny211.out] at ho6));have n0_:=Aside0.mk (Kd.R_lower (Kd.R_newM (M:=fun k_ => (w.heap.size≤k_)) ho6 (below_size (vB HB.out)) (fun k_ h_ => h_)) (below_size (vB HB.out)));have n1_:=Aside0.mk (below_step (vB HB.out) hb);clear HB;have HO213:=n0_;have HB:=n1_;clear n0_ n1_;clear hb ho6))
   go_loopg [7,8] k (fun kq v7 v8 w' => ∃ (x6_1:List Int) (x7_1:Int) (x8_1:Int),v7 = .int .u64 x7_1∧v8 = .int .i64 x8_1∧Aside0 (sconceref03_divSmall.l0 kq l0 a1 x6_1 x7_1 x8_1 = some (r1,r2))∧Aside0 (kq≤k)∧Aside0 (Kd.R (Kd.int .u32) 83 w' w.heap.size (fun k_ => (w.heap.size≤k_)) v212 x6_1)∧Aside0 (Below w.heap.size w w'))
   case atStart => exact ⟨(y211),(0),(wrap64 ((l0.length:Int) - 1)),(by first | rfl | (simp;done) | (simp [*];done)),(by first | rfl | (simp;done) | (simp [*];done)),H',⟨Nat.le_refl _⟩,⟨by (with_reducible repeat (first | apply Kd.R_alloc | apply Kd.R_drewN | apply Kd.R_drew));exact Kd.R_mono HO213.out (fun _ hk => hk.1)⟩,⟨by repeat (first | (with_reducible first | exact HB.out | apply below_alloc | apply pw_below_drewN | apply below_drew1) | exact HB.out)⟩⟩
   case round =>
    clear H'
    try clear c1
    try clear p2
    try clear c3
    try clear c3b0
    try clear c3b1
    try clear c4
    try clear c4b0
    try clear c4b1
    try clear p6
    obtain ⟨x6_1,x7_1,x8_1,rfl,rfl,HA,HK1,HO_6,HB⟩:=hrel
    cases gk with
    | zero => exact absurd HA.out (by simp [sconceref03_divSmall.l0])
    | succ k1 =>
     have H:=HA.out
     clear HA
     simp only [sconceref03_divSmall.l0] at H
     by_cases c7:x8_1 ≥ 0
     ·
      rw [if_pos c7] at H
      have c7b0:decide (0≤x8_1) = true:=decide_eq_true c7
      clear c7
      by_cases c8:0≤x8_1
      ·
       rw [if_pos c8] at H
       have c8b0:decide (0≤x8_1) = true:=decide_eq_true c8
       clear c8
       by_cases c9:x8_1 < (l0.length:Int)
       ·
        rw [if_pos c9] at H
        have c9b0:decide (x8_1 < (l0.length:Int)) = true:=decide_eq_true c9
        clear c9
        by_cases c10:(IntKind.u64.wrap (a1)) = 0
        ·
         rw [if_pos c10] at H
         exact absurd H (by simp)
        ·
         rw [if_neg c10] at H
         have c10b0:((IntKind.u64.wrap (a1)) == 0) = false:=beq_eq_false_iff_ne.mpr c10
         have c10b1:((IntKind.u64.wrap (a1)) != 0) = true:=bne_iff_ne.mpr c10
         by_cases c11:x8_1 < (x6_1.length:Int)
         ·
          rw [if_pos c11] at H
          have c11b0:decide (x8_1 < (x6_1.length:Int)) = true:=decide_eq_true c11
          clear c11
          obtain ⟨y215,hy215⟩:∃ y_:List Int,y_ = (x6_1.set (x8_1:Int).toNat ((IntKind.u64.wrap (Int.tdiv (Go.bits .or .u64 (IntKind.u64.wrap (x7_1 * 4294967296)) (IntKind.u64.wrap (rd l0 x8_1))) (IntKind.u64.wrap (a1)))) % 4294967296)):=⟨_,rfl⟩
          replace H:(sconceref03_divSmall.l0 k1 l0 a1 y215 (Int.tmod (Go.bits .or .u64 (IntKind.u64.wrap (x7_1 * 4294967296)) (IntKind.u64.wrap (rd l0 x8_1))) (IntKind.u64.wrap (a1))) (wrap64 (x8_1 - 1))) = some (r1,r2):=by first | (rw [hy215];with_reducible exact H) | (have H2_:=(Option.bind_some _ _).symm.trans H;rw [hy215];with_reducible exact H2_) | (have H2_:=(Option.bind_some _ _).symm.trans H;with_reducible exact H2_) | with_reducible exact H | (rw [hy215];exact H) | exact H
          have Ny215:=Aside0.mk hy215
          clear hy215
          have H':=Aside0.mk H
          clear H
          have p214:0≤(x8_1:Int):=of_decide_eq_true vD
          have q214:x8_1 < (l0.length:Int):=of_decide_eq_true vD
          obtain ⟨ad214,e214,hx214_0⟩:=Kd.at_int HR0.out x8_1 p214 q214
          cases e214
          replace hx214_0:=(HB.out.cell (World.block_lt_of_cell? w _ hx214_0)).trans hx214_0
          replace p214:=eq_true p214
          replace q214:=eq_true q214
          have p12:0≤(x8_1:Int):=of_decide_eq_true vD
          have q12:(x8_1:Int) < ((x6_1.length:Int):Int):=of_decide_eq_true vD
          obtain ⟨go12,co12,eo12,gb12,gl12,cl12,HG12⟩:=Kd.R_form HO_6.out (by omega)
          (first | cases eo12 | (injection eo12 with ea_ en_ ec_;(first | subst ea_ | (injection ea_ with ea_;subst ea_));subst ec_;clear en_))
          have GB12:=Aside0.mk gb12
          have GG12:=Aside0.mk HG12
          clear gb12 gl12 HG12
          obtain ⟨hx12_0,hf12_0⟩:=Kd.R_celln 0 HO_6.out (x8_1:Int) p12 q12
          replace p12:=eq_true p12
          replace q12:=eq_true q12
          have HP13:=Kd.R_putg HO_6.out (x8_1:Int) ((IntKind.u64.wrap (Int.tdiv (Go.bits .or .u64 (IntKind.u64.wrap (x7_1 * 4294967296)) (IntKind.u64.wrap (rd l0 x8_1))) (IntKind.u64.wrap (a1)))) % 4294967296)
          go_wp2_with (first | ((with_reducible refine gate_store (t:=83) (p:=34) rfl ?_);refine store_event (t:=83) (p:=34) (v:=?vo_w14) (w1:=(wr.setCell ⟨go12,(x8_1:Int).toNat,none⟩ (.int .u32 ((IntKind.u64.wrap (Int.tdiv (Go.bits .or .u64 (IntKind.u64.wrap (x7_1 * 4294967296)) (IntKind.u64.wrap (rd l0 x8_1))) (IntKind.u64.wrap (a1)))) % 4294967296)))) ?hg ?ho ?hn ?hr ?_;(case ho => rfl);(case hg => rfl);(case hn => rfl);(case hr => first | (go_simp;done) | (go_simp;rfl));intro w14 hw;have hg:wr.grownBy w14 (some go12):=(by rw [hw];exact HP13.2);have hp_:Kd.R (Kd.int .u32) 83 w14 w.heap.size (fun k_ => (w.heap.size≤k_)) (.slice (some ⟨go12,0,none⟩) x6_1.length co12) y215:=(by rw [hw,Ny215.out];exact HP13.1);clear HP13;have n0_:=Aside0.mk (hp_);have n1_:=Aside0.mk ((by rw [hw];exact below_set (HB.out) GB12.out:Below w.heap.size w w14));clear HO_6;clear HB;have HO_6:=n0_;have HB:=n1_;clear n0_ n1_;clear hg hw hp_))
          go_roundg k1
          case measure => have:=HK1.out;omega
          case rel => exact ⟨(y215),(Int.tmod (Go.bits .or .u64 (IntKind.u64.wrap (x7_1 * 4294967296)) (IntKind.u64.wrap (rd l0 x8_1))) (IntKind.u64.wrap (a1))),(wrap64 (x8_1 - 1)),(by first | rfl | (simp;done) | (simp [*];done)),(by first | rfl | (simp;done) | (simp [*];done)),H',⟨by have:=HK1.out;omega⟩,⟨by (with_reducible repeat (first | apply Kd.R_alloc | apply Kd.R_drewN | apply Kd.R_drew));exact HO_6.out⟩,⟨by repeat (first | (with_reducible first | exact HB.out | apply below_alloc | apply pw_below_drewN | apply below_drew1) | exact HB.out)⟩⟩
         ·
          rw [if_neg c11] at H
          exact absurd H (by simp)
       ·
        rw [if_neg c9] at H
        exact absurd H (by simp)
      ·
       rw [if_neg c8] at H
       exact absurd H (by simp)
     ·
      rw [if_neg c7] at H
      have c7b0:decide (0≤x8_1) = false:=decide_eq_false c7
      clear c7
      replace H:=Option.bind_eq_some_iff.mp H
      obtain ⟨t216,A150,H⟩:=H
      replace H:((sconceref03_Small.f k1 x7_1).bind fun t219 => (some (t216,t219))) = some (r1,r2):=H
      have A15:=Aside0.mk A150
      clear A150
      replace H:=Option.bind_eq_some_iff.mp H
      obtain ⟨t219,A160,H⟩:=H
      replace H:(some (t216,t219)) = some (r1,r2):=H
      have A16:=Aside0.mk A160
      clear A160
      simp only [Option.some.injEq,Prod.mk.injEq] at H
      obtain ⟨rfl,rfl⟩:=H
      obtain ⟨Ao17,co17,eo17⟩:=Kd.R_slice HO_6.out
      subst eo17
      go_wp2_with (first | ((with_reducible refine gate_callee (f:=85) rfl ?_);refine goesL_ (some 40) rfl rfl Try.func85 (by kernel_rfl) rfl #[.slice Ao17 x6_1.length co17] rfl vA ?_;(with_reducible refine (sconceref03_trim.calls k1 (fun k_ => some k_ = (.slice Ao17 x6_1.length co17:Value).ownBlock) _ _ x6_1 t216 _ ?side1 A15.out).mono ?_);(case side1 => exact Kd.R_V (Kd.R_tight rfl (HO_6.out)));rintro e w18 ⟨v217,rfl,ho0,hb⟩;refine ⟨_,rfl,?_⟩;have n0_:=Aside0.mk (Kd.R_below (vR HO_6.out) hb);have n1_:=Aside0.mk (Kd.V_lower (Kd.V_mono (ok':=fun k_ => (w.heap.size≤k_)) ho0 (fun k_ hk_ => Or.elim hk_ (fun hs_ => ((HO_6.out).1 k_ hs_.symm)) (fun hn_ => (Nat.le_trans (below_size (vB HB.out)) hn_)))) (below_size (vB HB.out)));have n2_:=Aside0.mk (below_step (vB HB.out) hb);clear HO_6;clear HB;have HO_6:=n0_;have HO218:=n1_;have HB:=n2_;clear n0_ n1_ n2_;(try clear hb);(try clear hb2);(try clear hk);(try clear hi);(try clear ho0)) | ((with_reducible refine gate_callee (f:=44) rfl ?_);refine goesL_ (some 42) rfl rfl Try.func44 (by kernel_rfl) rfl #[.int .u64 x7_1] rfl vA ?_;(with_reducible refine (sconceref03_Small.calls k1 x7_1 t219 _ A16.out).mono ?_);rintro e w19 ⟨v220,rfl,ho0,hb⟩;refine ⟨_,rfl,?_⟩;have n0_:=Aside0.mk (Kd.R_below (vR HO_6.out) hb);have n1_:=Aside0.mk (Kd.V_below (vV HO218.out) hb);have n2_:=Aside0.mk (Kd.V_lower (Kd.V_mono (ok':=fun k_ => (w.heap.size≤k_)∧some k_≠(.slice Ao17 x6_1.length co17:Value).ownBlock) ho0 (fun k_ hk_ => ⟨(Nat.le_trans (below_size (vB HB.out)) hk_),(Kd.fresh' (Kd.R_lt (vR HO_6.out)) k_ hk_)⟩)) (below_size (vB HB.out)));have n3_:=Aside0.mk (below_step (vB HB.out) hb);clear HO_6;clear HO218;clear HB;have HO_6:=n0_;have HO218:=n1_;have HO221:=n2_;have HB:=n3_;clear n0_ n1_ n2_ n3_;(try clear hb);(try clear hb2);(try clear hk);(try clear hi);(try clear ho0)))
      go_ret2
      exact ⟨_,_,by first | rfl | (simp [errW_none,errW_some] <;> rfl) | (simp [*,errW_none,errW_some] <;> rfl),by (with_reducible repeat (first | apply Kd.V_alloc | apply Kd.V_drewN | apply Kd.V_drew));exact HO218.out,by (with_reducible repeat (first | apply Kd.V_alloc | apply Kd.V_drewN | apply Kd.V_drew));exact Kd.V_mono HO221.out (fun _ hk => hk.1),by repeat (first | (with_reducible first | exact HB.out | apply below_alloc | apply pw_below_drewN | apply below_drew1) | exact HB.out)⟩
  ·
   rw [if_neg c4] at H
   exact absurd H (by simp)
 ·
  rw [if_neg c3] at H
  exact absurd H (by simp)
def sconceref01_One.f (a0:Bool):Option (Int):=if a0 = true then (some 1) else (some 0)
theorem sconceref01_One.calls (a0:Bool) (r:Int) (w:World) (h:sconceref01_One.f a0 = some r) :
  Calls Try.prog 140 #[.bool a0] w fun e w' => e = .returned (.int .u64 r)∧Drawn0 w w':=by
 have H:(if a0 = true then (some 1) else (some 0)) = some r:=h
 clear h
 by_cases c2:a0 = true
 ·
  subst c2
  have H1:(some 1) = some r:=by rw [if_pos rfl] at H;exact H
  clear H
  have H:=H1
  clear H1
  obtain rfl:=Option.some.inj H
  go_enter Try.func140,Try.ntmps140
  go_wp2
  go_ret
  exact ⟨by first | rfl | (simp;done) | (simp [*];done),by repeat (first | exact Drawn0.refl _ | apply Drawn0.step)⟩
 ·
  replace c2:=Bool.eq_false_iff.mpr c2
  subst c2
  have H1:(some 0) = some r:=by rw [if_neg (show ¬ (false = true) by decide)] at H;exact H
  clear H
  have H:=H1
  clear H1
  obtain rfl:=Option.some.inj H
  go_enter Try.func140,Try.ntmps140
  go_wp2
  go_ret
  exact ⟨by first | rfl | (simp;done) | (simp [*];done),by repeat (first | exact Drawn0.refl _ | apply Drawn0.step)⟩
def bits_Mul64.f (a0:Int) (a1:Int):Option (Int × Int):=some (IntKind.u64.wrap ((IntKind.u64.wrap ((IntKind.u64.wrap ((a0 / 4294967296) * (a1 / 4294967296))) + ((IntKind.u64.wrap ((IntKind.u64.wrap ((a0 / 4294967296) * (Go.bits .and .u64 a1 4294967295))) + ((IntKind.u64.wrap ((Go.bits .and .u64 a0 4294967295) * (Go.bits .and .u64 a1 4294967295))) / 4294967296))) / 4294967296))) + ((IntKind.u64.wrap ((Go.bits .and .u64 (IntKind.u64.wrap ((IntKind.u64.wrap ((a0 / 4294967296) * (Go.bits .and .u64 a1 4294967295))) + ((IntKind.u64.wrap ((Go.bits .and .u64 a0 4294967295) * (Go.bits .and .u64 a1 4294967295))) / 4294967296))) 4294967295) + (IntKind.u64.wrap ((Go.bits .and .u64 a0 4294967295) * (a1 / 4294967296))))) / 4294967296)),IntKind.u64.wrap (a0 * a1))
theorem bits_Mul64.calls (a0:Int) (a1:Int) (r1:Int) (r2:Int) (w:World) (h:bits_Mul64.f a0 a1 = some (r1,r2)) :
  Calls Try.prog 175 #[.int .u64 a0,.int .u64 a1] w fun e w' => e = .returned (.tuple #[.int .u64 r1,.int .u64 r2])∧Drawn0 w w':=by
 have H:(some (IntKind.u64.wrap ((IntKind.u64.wrap ((IntKind.u64.wrap ((a0 / 4294967296) * (a1 / 4294967296))) + ((IntKind.u64.wrap ((IntKind.u64.wrap ((a0 / 4294967296) * (Go.bits .and .u64 a1 4294967295))) + ((IntKind.u64.wrap ((Go.bits .and .u64 a0 4294967295) * (Go.bits .and .u64 a1 4294967295))) / 4294967296))) / 4294967296))) + ((IntKind.u64.wrap ((Go.bits .and .u64 (IntKind.u64.wrap ((IntKind.u64.wrap ((a0 / 4294967296) * (Go.bits .and .u64 a1 4294967295))) + ((IntKind.u64.wrap ((Go.bits .and .u64 a0 4294967295) * (Go.bits .and .u64 a1 4294967295))) / 4294967296))) 4294967295) + (IntKind.u64.wrap ((Go.bits .and .u64 a0 4294967295) * (a1 / 4294967296))))) / 4294967296)),IntKind.u64.wrap (a0 * a1))) = some (r1,r2):=h
 clear h
 simp only [Option.some.injEq,Prod.mk.injEq] at H
 obtain ⟨rfl,rfl⟩:=H
 go_enter Try.func175,Try.ntmps175
 go_wp2
 go_ret2
 exact ⟨by first | rfl | (simp;done) | (simp [*];done),by repeat (first | exact Drawn0.refl _ | apply Drawn0.step)⟩
end Go.Proofs.Ytonpekldcnankaa.X
