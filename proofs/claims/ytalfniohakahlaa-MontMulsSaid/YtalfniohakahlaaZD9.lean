/- Texts of the walk and of the plain laws, laid together by a program: X4. -/
import Derived.Test.YtalfniohakahlaaZD0
import Derived.Test.YtalfniohakahlaaZD1
import Derived.Test.YtalfniohakahlaaZD2
import Derived.Test.YtalfniohakahlaaZD5
import Derived.Test.YtalfniohakahlaaZD4
import Derived.Test.YtalfniohakahlaaZD3
import Derived.Test.YtalfniohakahlaaZD8
set_option maxHeartbeats 8000000
set_option maxRecDepth 100000
namespace Go.Proofs.Ytalfniohakahlaa.X
open Go.RowKit Go.Proofs.YtalfniohakahlaaW.PrintWords Go.Proofs.YtalfniohakahlaaW.PrintLast Go.Proofs.YtalfniohakahlaaW.PrintMore
attribute [local go_sem] max2_int min2_int max_two min_two max_three min_three max_four min_four
set_option linter.unusedVariables false
set_option linter.unusedSimpArgs false
def sconceref03_Cmp.l0:Nat→List Int→List Int→Int→Option (Int)
 | 0,_,_,_ => none
 | k + 1,x0,x1,x5 => if x5 ≥ 0 then (if 0≤x5 then (if x5 < (x0.length:Int) then (if x5 < (x1.length:Int) then (if (rd x0 x5) = (rd x1 x5) then (sconceref03_Cmp.l0 k x0 x1 (wrap64 (x5 - 1))) else (if (rd x0 x5) < (rd x1 x5) then (some (-1)) else (some 1))) else (none)) else (none)) else (none)) else (some 0)
def sconceref03_Cmp.f (k:Nat) (l0:List Int) (l1:List Int):Option (Int):=if (l0.length:Int) = (l1.length:Int) then (sconceref03_Cmp.l0 k l0 l1 (wrap64 ((l0.length:Int) - 1))) else (if (l0.length:Int) < (l1.length:Int) then (some (-1)) else (some 1))
theorem sconceref03_Cmp.calls (k:Nat) (A0:Option Addr) (c0:Nat) (l0:List Int) (A1:Option Addr) (c1:Nat) (l1:List Int) (r:Int) (w:World) (hr0:Kd.C (Kd.int .u32) w A0 l0.length l0) (hc0:l0.length≤c0) (hr1:Kd.C (Kd.int .u32) w A1 l1.length l1) (hc1:l1.length≤c1) (h:sconceref03_Cmp.f k l0 l1 = some r) :
  Calls Try.prog 24 #[.slice A0 l0.length c0,.slice A1 l1.length c1] w fun e w' => e = .returned (.int .i64 r)∧Drawn0 w w':=by
 have HR0:=Aside0.mk hr0
 have HC0:=Aside0.mk hc0
 clear hr0 hc0
 have HR1:=Aside0.mk hr1
 have HC1:=Aside0.mk hc1
 clear hr1 hc1
 have H:(if (l0.length:Int) = (l1.length:Int) then (sconceref03_Cmp.l0 k l0 l1 (wrap64 ((l0.length:Int) - 1))) else (if (l0.length:Int) < (l1.length:Int) then (some (-1)) else (some 1))) = some r:=h
 clear h
 by_cases c3:(l0.length:Int) = (l1.length:Int)
 ·
  rw [if_pos c3] at H
  have c3b0:((l0.length:Int) == (l1.length:Int)) = true:=beq_iff_eq.mpr c3
  have c3b1:((l0.length:Int) != (l1.length:Int)) = false:=bne_eq_false_iff_eq.mpr c3
  have c3b2:(l0.length == l1.length) = true:=by first | simpa using c3 | (simp at c3 ⊢;omega)
  clear c3
  have H':=Aside0.mk H
  clear H
  go_enter Try.func24,Try.ntmps24
  go_wp2
  repeat (go_quiet (fail);try go_wp2)
  go_loopg [5] k (fun kq v5 w' => ∃ (x5_1:Int),v5 = .int .i64 x5_1∧Aside0 (sconceref03_Cmp.l0 kq l0 l1 x5_1 = some r)∧Aside0 (kq≤k)∧Drawn0 w w')
  case atStart => exact ⟨(wrap64 ((l0.length:Int) - 1)),(by first | rfl | (simp;done) | (simp [*];done)),H',⟨Nat.le_refl _⟩,by repeat (first | exact Drawn0.refl _ | apply Drawn0.step)⟩
  case round =>
   clear H'
   try clear c1
   try clear c2
   try clear p2
   try clear c3
   try clear c3b0
   try clear c3b1
   try clear c3b2
   obtain ⟨x5_1,rfl,HA,HK1,⟨m1,rfl⟩⟩:=hrel
   cases gk with
   | zero => exact absurd HA.out (by simp [sconceref03_Cmp.l0])
   | succ k1 =>
    have H:=HA.out
    clear HA
    simp only [sconceref03_Cmp.l0] at H
    by_cases c4:x5_1 ≥ 0
    ·
     rw [if_pos c4] at H
     have c4b0:decide (0≤x5_1) = true:=decide_eq_true c4
     clear c4
     by_cases c5:0≤x5_1
     ·
      rw [if_pos c5] at H
      have c5b0:decide (0≤x5_1) = true:=decide_eq_true c5
      clear c5
      by_cases c6:x5_1 < (l0.length:Int)
      ·
       rw [if_pos c6] at H
       have c6b0:decide (x5_1 < (l0.length:Int)) = true:=decide_eq_true c6
       clear c6
       by_cases c7:x5_1 < (l1.length:Int)
       ·
        rw [if_pos c7] at H
        have c7b0:decide (x5_1 < (l1.length:Int)) = true:=decide_eq_true c7
        clear c7
        by_cases c8:(rd l0 x5_1) = (rd l1 x5_1)
        ·
         rw [if_pos c8] at H
         have c8b0:((rd l0 x5_1) == (rd l1 x5_1)) = true:=beq_iff_eq.mpr c8
         have c8b1:((rd l0 x5_1) != (rd l1 x5_1)) = false:=bne_eq_false_iff_eq.mpr c8
         clear c8
         have H':=Aside0.mk H
         clear H
         have p147:0≤(x5_1:Int):=of_decide_eq_true vD
         have q147:x5_1 < (l0.length:Int):=of_decide_eq_true vD
         obtain ⟨ad147,e147,hx147_0⟩:=Kd.at_int HR0.out x5_1 p147 q147
         cases e147
         replace p147:=eq_true p147
         replace q147:=eq_true q147
         have p148:0≤(x5_1:Int):=of_decide_eq_true vD
         have q148:x5_1 < (l1.length:Int):=of_decide_eq_true vD
         obtain ⟨ad148,e148,hx148_0⟩:=Kd.at_int HR1.out x5_1 p148 q148
         cases e148
         replace p148:=eq_true p148
         replace q148:=eq_true q148
         go_wp2
         repeat (go_quiet (fail);try go_wp2)
         go_roundg k1
         case measure => have:=HK1.out;omega
         case rel => exact ⟨(wrap64 (x5_1 - 1)),(by first | rfl | (simp;done) | (simp [*];done)),H',⟨by have:=HK1.out;omega⟩,by repeat (first | exact Drawn0.refl _ | apply Drawn0.step)⟩
        ·
         rw [if_neg c8] at H
         have c8b0:((rd l0 x5_1) == (rd l1 x5_1)) = false:=beq_eq_false_iff_ne.mpr c8
         have c8b1:((rd l0 x5_1) != (rd l1 x5_1)) = true:=bne_iff_ne.mpr c8
         by_cases c9:(rd l0 x5_1) < (rd l1 x5_1)
         ·
          rw [if_pos c9] at H
          have c9b0:decide ((rd l0 x5_1) < (rd l1 x5_1)) = true:=decide_eq_true c9
          clear c9
          obtain rfl:=Option.some.inj H
          have p147:0≤(x5_1:Int):=of_decide_eq_true vD
          have q147:x5_1 < (l0.length:Int):=of_decide_eq_true vD
          obtain ⟨ad147,e147,hx147_0⟩:=Kd.at_int HR0.out x5_1 p147 q147
          cases e147
          replace p147:=eq_true p147
          replace q147:=eq_true q147
          have p148:0≤(x5_1:Int):=of_decide_eq_true vD
          have q148:x5_1 < (l1.length:Int):=of_decide_eq_true vD
          obtain ⟨ad148,e148,hx148_0⟩:=Kd.at_int HR1.out x5_1 p148 q148
          cases e148
          replace p148:=eq_true p148
          replace q148:=eq_true q148
          have p149:0≤(x5_1:Int):=of_decide_eq_true vD
          have q149:x5_1 < (l0.length:Int):=of_decide_eq_true vD
          obtain ⟨ad149,e149,hx149_0⟩:=Kd.at_int HR0.out x5_1 p149 q149
          obtain rfl:ad147 = ad149:=(by injection e149)
          replace p149:=eq_true p149
          replace q149:=eq_true q149
          have p150:0≤(x5_1:Int):=of_decide_eq_true vD
          have q150:x5_1 < (l1.length:Int):=of_decide_eq_true vD
          obtain ⟨ad150,e150,hx150_0⟩:=Kd.at_int HR1.out x5_1 p150 q150
          obtain rfl:ad148 = ad150:=(by injection e150)
          replace p150:=eq_true p150
          replace q150:=eq_true q150
          go_wp2
          repeat (go_quiet (fail);try go_wp2)
          go_ret
          exact ⟨by first | rfl | (simp;done) | (simp [*];done),by repeat (first | exact Drawn0.refl _ | apply Drawn0.step)⟩
         ·
          rw [if_neg c9] at H
          have c9b0:decide ((rd l0 x5_1) < (rd l1 x5_1)) = false:=decide_eq_false c9
          clear c9
          obtain rfl:=Option.some.inj H
          have p147:0≤(x5_1:Int):=of_decide_eq_true vD
          have q147:x5_1 < (l0.length:Int):=of_decide_eq_true vD
          obtain ⟨ad147,e147,hx147_0⟩:=Kd.at_int HR0.out x5_1 p147 q147
          cases e147
          replace p147:=eq_true p147
          replace q147:=eq_true q147
          have p148:0≤(x5_1:Int):=of_decide_eq_true vD
          have q148:x5_1 < (l1.length:Int):=of_decide_eq_true vD
          obtain ⟨ad148,e148,hx148_0⟩:=Kd.at_int HR1.out x5_1 p148 q148
          cases e148
          replace p148:=eq_true p148
          replace q148:=eq_true q148
          have p149:0≤(x5_1:Int):=of_decide_eq_true vD
          have q149:x5_1 < (l0.length:Int):=of_decide_eq_true vD
          obtain ⟨ad149,e149,hx149_0⟩:=Kd.at_int HR0.out x5_1 p149 q149
          obtain rfl:ad147 = ad149:=(by injection e149)
          replace p149:=eq_true p149
          replace q149:=eq_true q149
          have p150:0≤(x5_1:Int):=of_decide_eq_true vD
          have q150:x5_1 < (l1.length:Int):=of_decide_eq_true vD
          obtain ⟨ad150,e150,hx150_0⟩:=Kd.at_int HR1.out x5_1 p150 q150
          obtain rfl:ad148 = ad150:=(by injection e150)
          replace p150:=eq_true p150
          replace q150:=eq_true q150
          go_wp2
          repeat (go_quiet (fail);try go_wp2)
          go_ret
          exact ⟨by first | rfl | (simp;done) | (simp [*];done),by repeat (first | exact Drawn0.refl _ | apply Drawn0.step)⟩
       ·
        rw [if_neg c7] at H
        exact absurd H (by simp)
      ·
       rw [if_neg c6] at H
       exact absurd H (by simp)
     ·
      rw [if_neg c5] at H
      exact absurd H (by simp)
    ·
     rw [if_neg c4] at H
     have c4b0:decide (0≤x5_1) = false:=decide_eq_false c4
     clear c4
     obtain rfl:=Option.some.inj H
     go_wp2
     repeat (go_quiet (fail);try go_wp2)
     go_ret
     exact ⟨by first | rfl | (simp;done) | (simp [*];done),by repeat (first | exact Drawn0.refl _ | apply Drawn0.step)⟩
 ·
  rw [if_neg c3] at H
  have c3b0:((l0.length:Int) == (l1.length:Int)) = false:=beq_eq_false_iff_ne.mpr c3
  have c3b1:((l0.length:Int) != (l1.length:Int)) = true:=bne_iff_ne.mpr c3
  have c3b2:(l0.length == l1.length) = false:=by first | simpa using c3 | (simp at c3 ⊢;omega)
  by_cases c10:(l0.length:Int) < (l1.length:Int)
  ·
   rw [if_pos c10] at H
   have c10b0:decide ((l0.length:Int) < (l1.length:Int)) = true:=decide_eq_true c10
   have c10b1:decide (l0.length < l1.length) = true:=decide_eq_true (Int.ofNat_lt.mp c10)
   clear c10
   obtain rfl:=Option.some.inj H
   go_enter Try.func24,Try.ntmps24
   go_wp2
   repeat (go_quiet (fail);try go_wp2)
   go_ret
   exact ⟨by first | rfl | (simp;done) | (simp [*];done),by repeat (first | exact Drawn0.refl _ | apply Drawn0.step)⟩
  ·
   rw [if_neg c10] at H
   have c10b0:decide ((l0.length:Int) < (l1.length:Int)) = false:=decide_eq_false c10
   have c10b1:decide (l0.length < l1.length) = false:=decide_eq_false (fun h => c10 (Int.ofNat_lt.mpr h))
   clear c10
   obtain rfl:=Option.some.inj H
   go_enter Try.func24,Try.ntmps24
   go_wp2
   repeat (go_quiet (fail);try go_wp2)
   go_ret
   exact ⟨by first | rfl | (simp;done) | (simp [*];done),by repeat (first | exact Drawn0.refl _ | apply Drawn0.step)⟩
def sconceref03_Nat.l0:Nat→List Int→List Int→Int→Int→Option (List Int)
 | 0,_,_,_,_ => none
 | k + 1,x0,x5,x11,x12 => if x12 < x11 then ((sconceref03_digit.f x0 (wrap64 (2 * x12))).bind fun t154 => ((sconceref03_digit.f x0 (wrap64 ((wrap64 (2 * x12)) + 1))).bind fun t155 => (if 0≤x12 then (if x12 < (x5.length:Int) then (sconceref03_Nat.l0 k x0 (x5.set (x12:Int).toNat (Go.bits .or .u64 (IntKind.u64.wrap (t154)) (IntKind.u64.wrap ((IntKind.u64.wrap (t155)) * 4294967296)))) x11 (wrap64 (x12 + 1))) else (none)) else (none)))) else (some x5)
def sconceref03_Nat.f (k:Nat) (l0:List Int) (a1:Int):Option (List Int):=if 0≤(mx a1 0) then (if (mx a1 0:Int).toNat≤35184372088832 then ((some (List.replicate (mx a1 0:Int).toNat 0:List Int)).bind fun y151 => (sconceref03_Nat.l0 k l0 y151 (y151.length:Int) 0)) else (none)) else (none)
theorem sconceref03_Nat.calls (k:Nat) (A0:Option Addr) (c0:Nat) (l0:List Int) (a1:Int) (r:List Int) (w:World) (hr0:Kd.C (Kd.int .u32) w A0 l0.length l0) (hc0:l0.length≤c0) (h:sconceref03_Nat.f k l0 a1 = some r) :
  Calls Try.prog 50 #[.slice A0 l0.length c0,.int .i64 a1] w fun e w' => ∃ v0_:Value,e = .returned (v0_)∧Kd.R (Kd.int .u64) 37 w' w.heap.size (fun _ => True) v0_ r∧Below w.heap.size w w':=by
 have HR0:=Aside0.mk hr0
 have HC0:=Aside0.mk hc0
 clear hr0 hc0
 have HB:=Aside0.mk (Below.refl w.heap.size w)
 have H:(if 0≤(mx a1 0) then (if (mx a1 0:Int).toNat≤35184372088832 then ((some (List.replicate (mx a1 0:Int).toNat 0:List Int)).bind fun y151 => (sconceref03_Nat.l0 k l0 y151 (y151.length:Int) 0)) else (none)) else (none)) = some r:=h
 clear h
 obtain ⟨ji3,hji3⟩:∃ j_:Int,(mx a1 0) = j_:=⟨_,rfl⟩
 replace H:(if 0≤(ji3) then (if (ji3:Int).toNat≤35184372088832 then ((some (List.replicate (ji3:Int).toNat 0:List Int)).bind fun y151 => (sconceref03_Nat.l0 k l0 y151 (y151.length:Int) 0)) else (none)) else (none)) = some r:=by first | (rw [hji3] at H;exact H) | (simp only [hji3] at H ⊢;exact H)
 (try (have hji3l:0≤ji3:=by (rw [← hji3];unfold mx;(repeat' split) <;> omega)))
 (try (have hji3m:0≤ji3:=by omega))
 have hji3_:(if a1 < 0 then 0 else a1) = ji3:=hji3
 by_cases c4:0≤(ji3)
 ·
  rw [if_pos c4] at H
  have c4b0:=eq_true c4
  have c4b1:decide (0≤(ji3)) = true:=decide_eq_true c4
  clear c4
  by_cases c5:(ji3:Int).toNat≤35184372088832
  ·
   rw [if_pos c5] at H
   have c5b0:=eq_true c5
   have c5b1:decide ((ji3:Int).toNat≤35184372088832) = true:=decide_eq_true c5
   clear c5
   obtain ⟨y151,hy151⟩:∃ y_:List Int,y_ = (List.replicate (ji3:Int).toNat 0):=⟨_,rfl⟩
   replace H:(sconceref03_Nat.l0 k l0 y151 (y151.length:Int) 0) = some r:=by first | (rw [hy151];with_reducible exact H) | (have H2_:=(Option.bind_some _ _).symm.trans H;rw [hy151];with_reducible exact H2_) | (have H2_:=(Option.bind_some _ _).symm.trans H;with_reducible exact H2_) | with_reducible exact H | (rw [hy151];exact H) | exact H
   have Ny151:=Aside0.mk hy151
   clear hy151
   have H':=Aside0.mk H
   clear H
   go_enter Try.func50,Try.ntmps50
   go_wp2_with (first | ((with_reducible refine gate_dst (N:=9) rfl ?_);refine Kd.R_make (Kd.int .u64) _ 37 rfl (N:=9) rfl 23 _ _ rfl ji3 rfl rfl Try.underlying23 (.int .u64 0) 8 info37 rfl (by decide) (by omega) 0 (ok:=fun _ => True) (okp:=fun _ => True) rfl (fun _ hk => hk) trivial (of_decide_eq_true vD) (Nat.le_trans (Nat.mul_le_mul_right _ (of_decide_eq_true vD:ji3.toNat≤35184372088832)) (by omega)) (Below.refl _ _) (Nat.le_refl _) ?_;intro v152 w6 ho7 hb hg_ hnew_;clear hg_ hnew_;(first | rw [← Ny151.out] at ho7 | (simp only [Int.reduceToNat] at ho7;rw [← Ny151.out] at ho7));have n0_:=Aside0.mk (Kd.R_lower ho7 (below_size (vB HB.out)));have n1_:=Aside0.mk (below_step (vB HB.out) hb);clear HB;have HO153:=n0_;have HB:=n1_;clear n0_ n1_;clear hb ho7;obtain ⟨Ao8,co8,eo8⟩:=Kd.R_slice HO153.out;subst eo8))
   go_loopg [12] k (fun kq v12 w' => ∃ (x5_1:List Int) (x12_1:Int),v12 = .int .i64 x12_1∧Aside0 (sconceref03_Nat.l0 kq l0 x5_1 (y151.length:Int) x12_1 = some r)∧Aside0 (kq≤k)∧Aside0 (Kd.R (Kd.int .u64) 37 w' w.heap.size (fun _ => True) (.slice Ao8 y151.length co8) x5_1)∧Aside0 (Below w.heap.size w w'))
   case atStart => exact ⟨(y151),(0),(by first | rfl | (simp;done) | (simp [*];done)),H',⟨Nat.le_refl _⟩,⟨by (with_reducible repeat (first | apply Kd.R_alloc | apply Kd.R_drewN | apply Kd.R_drew));exact HO153.out⟩,⟨by repeat (first | (with_reducible first | exact HB.out | apply below_alloc | apply pw_below_drewN | apply below_drew1) | exact HB.out)⟩⟩
   case round =>
    clear H'
    try clear p2
    try clear c4
    try clear c4b0
    try clear c4b1
    try clear c5
    try clear c5b0
    try clear c5b1
    obtain ⟨x5_1,x12_1,rfl,HA,HK1,HO_5,HB⟩:=hrel
    have hl5_1:=(Kd.R_reads' HO_5.out).1
    rw [hl5_1] at HO_5
    (try simp only [hl5_1])
    cases gk with
    | zero => exact absurd HA.out (by simp [sconceref03_Nat.l0])
    | succ k1 =>
     have H:=HA.out
     clear HA
     simp only [sconceref03_Nat.l0] at H
     by_cases c9:x12_1 < (y151.length:Int)
     ·
      rw [if_pos c9] at H
      have c9b0:decide (x12_1 < (y151.length:Int)) = true:=decide_eq_true c9
      (try (have c9b0L0:=c9b0;rw [hl5_1] at c9b0L0))
      clear c9
      replace H:=Option.bind_eq_some_iff.mp H
      obtain ⟨t154,A100,H⟩:=H
      replace H:((sconceref03_digit.f l0 (wrap64 ((wrap64 (2 * x12_1)) + 1))).bind fun t155 => (if 0≤x12_1 then (if x12_1 < (x5_1.length:Int) then (sconceref03_Nat.l0 k1 l0 (x5_1.set (x12_1:Int).toNat (Go.bits .or .u64 (IntKind.u64.wrap (t154)) (IntKind.u64.wrap ((IntKind.u64.wrap (t155)) * 4294967296)))) (y151.length:Int) (wrap64 (x12_1 + 1))) else (none)) else (none))) = some r:=H
      have A10:=Aside0.mk A100
      clear A100
      replace H:=Option.bind_eq_some_iff.mp H
      obtain ⟨t155,A110,H⟩:=H
      replace H:(if 0≤x12_1 then (if x12_1 < (x5_1.length:Int) then (sconceref03_Nat.l0 k1 l0 (x5_1.set (x12_1:Int).toNat (Go.bits .or .u64 (IntKind.u64.wrap (t154)) (IntKind.u64.wrap ((IntKind.u64.wrap (t155)) * 4294967296)))) (y151.length:Int) (wrap64 (x12_1 + 1))) else (none)) else (none)) = some r:=H
      have A11:=Aside0.mk A110
      clear A110
      by_cases c12:0≤x12_1
      ·
       rw [if_pos c12] at H
       have c12b0:decide (0≤x12_1) = true:=decide_eq_true c12
       clear c12
       by_cases c13:x12_1 < (x5_1.length:Int)
       ·
        rw [if_pos c13] at H
        have c13b0:decide (x12_1 < (x5_1.length:Int)) = true:=decide_eq_true c13
        (try (have c13b0L0:=c13b0;rw [hl5_1] at c13b0L0))
        clear c13
        obtain ⟨y156,hy156⟩:∃ y_:List Int,y_ = (x5_1.set (x12_1:Int).toNat (Go.bits .or .u64 (IntKind.u64.wrap (t154)) (IntKind.u64.wrap ((IntKind.u64.wrap (t155)) * 4294967296)))):=⟨_,rfl⟩
        replace H:(sconceref03_Nat.l0 k1 l0 y156 (y151.length:Int) (wrap64 (x12_1 + 1))) = some r:=by first | (rw [hy156];with_reducible exact H) | (have H2_:=(Option.bind_some _ _).symm.trans H;rw [hy156];with_reducible exact H2_) | (have H2_:=(Option.bind_some _ _).symm.trans H;with_reducible exact H2_) | with_reducible exact H | (rw [hy156];exact H) | exact H
        have Ny156:=Aside0.mk hy156
        clear hy156
        have H':=Aside0.mk H
        clear H
        go_wp2_with (first | ((with_reducible refine gate_callee (f:=53) rfl ?_);refine goesL_ (some 20) rfl rfl Try.func53 (by kernel_rfl) rfl #[.slice A0 l0.length c0,.int .i64 (wrap64 (2 * x12_1))] rfl vA ?_;(with_reducible refine (sconceref03_digit.calls _ _ l0 (wrap64 (2 * x12_1)) t154 _ ?side1 ?side2 A10.out).mono ?_);(case side1 => repeat (first | exact (Kd.C_below HR0.out HB.out) | (with_reducible refine Kd.C_alloc ?_ _) | (with_reducible refine Kd.C_drewN ?_ _) | (with_reducible refine Kd.C_drew ?_)));(case side2 => exact HC0.out);rintro e w' ⟨rfl,⟨nd,rfl⟩⟩;refine ⟨_,rfl,?_⟩;(try (rw [drewN_self wr];generalize hq_:World.drewN wr _ = wr;have n0_:Aside0 (Kd.R (Kd.int .u64) 37 wr w.heap.size (fun _ => True) (.slice Ao8 x5_1.length co8) x5_1):=⟨by rw [← hq_];exact (vR HO_5.out)⟩;have n1_:Aside0 (Below w.heap.size w wr):=⟨by rw [← hq_];exact (vB HB.out)⟩;clear HO_5 HB hq_;have HO_5:=n0_;have HB:=n1_;clear n0_ n1_))) | ((with_reducible refine gate_callee (f:=53) rfl ?_);refine goesL_ (some 26) rfl rfl Try.func53 (by kernel_rfl) rfl #[.slice A0 l0.length c0,.int .i64 (wrap64 ((wrap64 (2 * x12_1)) + 1))] rfl vA ?_;(with_reducible refine (sconceref03_digit.calls _ _ l0 (wrap64 ((wrap64 (2 * x12_1)) + 1)) t155 _ ?side1 ?side2 A11.out).mono ?_);(case side1 => repeat (first | exact (Kd.C_below HR0.out HB.out) | (with_reducible refine Kd.C_alloc ?_ _) | (with_reducible refine Kd.C_drewN ?_ _) | (with_reducible refine Kd.C_drew ?_)));(case side2 => exact HC0.out);rintro e w' ⟨rfl,⟨nd,rfl⟩⟩;refine ⟨_,rfl,?_⟩;(try (rw [drewN_self wr];generalize hq_:World.drewN wr _ = wr;have n0_:Aside0 (Kd.R (Kd.int .u64) 37 wr w.heap.size (fun _ => True) (.slice Ao8 x5_1.length co8) x5_1):=⟨by rw [← hq_];exact (vR HO_5.out)⟩;have n1_:Aside0 (Below w.heap.size w wr):=⟨by rw [← hq_];exact (vB HB.out)⟩;clear HO_5 HB hq_;have HO_5:=n0_;have HB:=n1_;clear n0_ n1_));have p14:0≤(x12_1:Int):=of_decide_eq_true vD;have q14:(x12_1:Int) < ((x5_1.length:Int):Int):=of_decide_eq_true vD;obtain ⟨go14,co14,eo14,gb14,gl14,cl14,HG14⟩:=Kd.R_form HO_5.out (by omega);(first | cases eo14 | (injection eo14 with ea_ en_ ec_;(first | subst ea_ | (injection ea_ with ea_;subst ea_));subst ec_;clear en_));have GB14:=Aside0.mk gb14;have GG14:=Aside0.mk HG14;clear gb14 gl14 HG14;obtain ⟨hx14_0,hf14_0⟩:=Kd.R_celln 0 HO_5.out (x12_1:Int) p14 q14;replace p14:=eq_true p14;replace q14:=eq_true q14;obtain ⟨hy15_,hz15_⟩:=Kd.R_celln 0 HO_5.out (x12_1:Int) (of_decide_eq_true vD) (of_decide_eq_true vD);have HP15:=Kd.R_putg HO_5.out (x12_1:Int) (Go.bits .or .u64 (IntKind.u64.wrap (t154)) (IntKind.u64.wrap ((IntKind.u64.wrap (t155)) * 4294967296)))) | ((with_reducible refine gate_store (t:=37) (p:=30) rfl ?_);refine store_event (t:=37) (p:=30) (v:=?vo_w16) (w1:=(wr.setCell ⟨go14,(x12_1:Int).toNat,none⟩ (.int .u64 (Go.bits .or .u64 (IntKind.u64.wrap (t154)) (IntKind.u64.wrap ((IntKind.u64.wrap (t155)) * 4294967296)))))) ?hg ?ho ?hn ?hr ?_;(case ho => rfl);(case hg => rfl);(case hn => rfl);(case hr => first | (go_simp;done) | (go_simp;rfl));intro w16 hw;have hg:wr.grownBy w16 (some go14):=(by rw [hw];exact HP15.2);have hp_:Kd.R (Kd.int .u64) 37 w16 w.heap.size (fun _ => True) (.slice (some ⟨go14,0,none⟩) x5_1.length co8) y156:=(by rw [hw,Ny156.out];exact HP15.1);clear HP15;have n0_:=Aside0.mk (hp_);have n1_:=Aside0.mk ((by rw [hw];exact below_set (HB.out) GB14.out:Below w.heap.size w w16));clear HO_5;clear HB;have HO_5:=n0_;have HB:=n1_;clear n0_ n1_;clear hg hw hp_))
        (try simp only [← hl5_1])
        go_roundg k1
        case measure => have:=HK1.out;omega
        case rel => exact ⟨(y156),(wrap64 (x12_1 + 1)),(by first | rfl | (simp;done) | (simp [*];done)),H',⟨by have:=HK1.out;omega⟩,⟨by (try simp only [hl5_1]);(with_reducible repeat (first | apply Kd.R_alloc | apply Kd.R_drewN | apply Kd.R_drew));exact HO_5.out⟩,⟨by repeat (first | (with_reducible first | exact HB.out | apply below_alloc | apply pw_below_drewN | apply below_drew1) | exact HB.out)⟩⟩
       ·
        rw [if_neg c13] at H
        exact absurd H (by simp)
      ·
       rw [if_neg c12] at H
       exact absurd H (by simp)
     ·
      rw [if_neg c9] at H
      have c9b0:decide (x12_1 < (y151.length:Int)) = false:=decide_eq_false c9
      (try (have c9b0L0:=c9b0;rw [hl5_1] at c9b0L0))
      clear c9
      obtain rfl:=Option.some.inj H
      go_wp2
      go_ret
      exact ⟨_,by first | rfl | (simp [errW_none,errW_some] <;> rfl) | (simp only [← hji3];first | rfl | (simp [errW_none,errW_some] <;> rfl)) | (simp [*,errW_none,errW_some] <;> rfl),by (with_reducible repeat (first | apply Kd.R_alloc | apply Kd.R_drewN | apply Kd.R_drew));exact HO_5.out,by repeat (first | (with_reducible first | exact HB.out | apply below_alloc | apply pw_below_drewN | apply below_drew1) | exact HB.out)⟩
  ·
   rw [if_neg c5] at H
   exact absurd H (by simp)
 ·
  rw [if_neg c4] at H
  exact absurd H (by simp)
mutual
def sconceref03_Mul.l0:Nat→List Int→List Int→List Int→Int→Int→Option (List Int)
 | 0,_,_,_,_,_ => none
 | k + 1,x1,x5,x17,x18,x19 => if x19 < x18 then (if 0≤x19 then (if x19 < (x17.length:Int) then (sconceref03_Mul.l1 k x1 x5 x19 (rd x17 x19) 0 x17 x18 x19 x1 (x1.length:Int) 0) else (none)) else (none)) else ((sconceref03_trim.f k x5).bind fun t160 => (some t160))
def sconceref03_Mul.l1:Nat→List Int→List Int→Int→Int→Int→List Int→Int→Int→List Int→Int→Int→Option (List Int)
 | 0,_,_,_,_,_,_,_,_,_,_,_ => none
 | k + 1,x1,x5,x6,x7,x8,x17,x18,x19,x24,x25,x26 => if x26 < x25 then (if 0≤x26 then (if x26 < (x24.length:Int) then (if 0≤(wrap64 (x6 + x26)) then (if (wrap64 (x6 + x26)) < (x5.length:Int) then (sconceref03_Mul.l1 k x1 (x5.set ((wrap64 (x6 + x26)):Int).toNat ((IntKind.u64.wrap (x8 + (IntKind.u64.wrap ((IntKind.u64.wrap ((IntKind.u64.wrap (x7)) * (IntKind.u64.wrap (rd x24 x26)))) + (IntKind.u64.wrap (rd x5 (wrap64 (x6 + x26)))))))) % 4294967296)) x6 x7 ((IntKind.u64.wrap (x8 + (IntKind.u64.wrap ((IntKind.u64.wrap ((IntKind.u64.wrap (x7)) * (IntKind.u64.wrap (rd x24 x26)))) + (IntKind.u64.wrap (rd x5 (wrap64 (x6 + x26)))))))) / 4294967296) x17 x18 x19 x24 x25 (wrap64 (x26 + 1))) else (none)) else (none)) else (none)) else (none)) else (if 0≤(wrap64 (x6 + (x1.length:Int))) then (if (wrap64 (x6 + (x1.length:Int))) < (x5.length:Int) then (sconceref03_Mul.l0 k x1 (x5.set ((wrap64 (x6 + (x1.length:Int))):Int).toNat ((x8) % 4294967296)) x17 x18 (wrap64 (x19 + 1))) else (none)) else (none))
end
def sconceref03_Mul.f (k:Nat) (l0:List Int) (l1:List Int):Option (List Int):=if 0≤(wrap64 ((l0.length:Int) + (l1.length:Int))) then (if (wrap64 ((l0.length:Int) + (l1.length:Int)):Int).toNat≤70368744177664 then (sconceref03_Mul.l0 k l1 (List.replicate (wrap64 ((l0.length:Int) + (l1.length:Int)):Int).toNat 0) l0 (l0.length:Int) 0) else (none)) else (none)
theorem sconceref03_Mul.calls (k:Nat) (A0:Option Addr) (c0:Nat) (l0:List Int) (A1:Option Addr) (c1:Nat) (l1:List Int) (r:List Int) (w:World) (hr0:Kd.C (Kd.int .u32) w A0 l0.length l0) (hc0:l0.length≤c0) (hr1:Kd.C (Kd.int .u32) w A1 l1.length l1) (hc1:l1.length≤c1) (h:sconceref03_Mul.f k l0 l1 = some r) :
  Calls Try.prog 51 #[.slice A0 l0.length c0,.slice A1 l1.length c1] w fun e w' => ∃ v0_:Value,e = .returned (v0_)∧Kd.V (Kd.int .u32) 78 w' w.heap.size (fun k_ => (w.heap.size≤k_)) v0_ r∧Below w.heap.size w w':=by
 have HR0:=Aside0.mk hr0
 have HC0:=Aside0.mk hc0
 clear hr0 hc0
 have HR1:=Aside0.mk hr1
 have HC1:=Aside0.mk hc1
 clear hr1 hc1
 have HB:=Aside0.mk (Below.refl w.heap.size w)
 have H:(if 0≤(wrap64 ((l0.length:Int) + (l1.length:Int))) then (if (wrap64 ((l0.length:Int) + (l1.length:Int)):Int).toNat≤70368744177664 then (sconceref03_Mul.l0 k l1 (List.replicate (wrap64 ((l0.length:Int) + (l1.length:Int)):Int).toNat 0) l0 (l0.length:Int) 0) else (none)) else (none)) = some r:=h
 clear h
 obtain ⟨ji3,hji3⟩:∃ j_:Int,(wrap64 ((l0.length:Int) + (l1.length:Int))) = j_:=⟨_,rfl⟩
 replace H:(if 0≤(ji3) then (if (ji3:Int).toNat≤70368744177664 then (sconceref03_Mul.l0 k l1 (List.replicate (ji3:Int).toNat 0) l0 (l0.length:Int) 0) else (none)) else (none)) = some r:=by first | (rw [hji3] at H;exact H) | (simp only [hji3] at H ⊢;exact H)
 have hji3w:(IntKind.i64.wrap ((l0.length:Int) + (l1.length:Int))) = ji3:=(i64_w _).trans hji3
 by_cases c4:0≤(ji3)
 ·
  rw [if_pos c4] at H
  have c4b0:=eq_true c4
  have c4b1:decide (0≤(ji3)) = true:=decide_eq_true c4
  clear c4
  by_cases c5:(ji3:Int).toNat≤70368744177664
  ·
   rw [if_pos c5] at H
   have c5b0:=eq_true c5
   have c5b1:decide ((ji3:Int).toNat≤70368744177664) = true:=decide_eq_true c5
   clear c5
   obtain ⟨y157,hy157⟩:∃ y_:List Int,y_ = (List.replicate (ji3:Int).toNat 0):=⟨_,rfl⟩
   replace H:(sconceref03_Mul.l0 k l1 y157 l0 (l0.length:Int) 0) = some r:=by first | (rw [hy157];with_reducible exact H) | (have H2_:=(Option.bind_some _ _).symm.trans H;rw [hy157];with_reducible exact H2_) | (have H2_:=(Option.bind_some _ _).symm.trans H;with_reducible exact H2_) | with_reducible exact H | (rw [hy157];exact H) | exact H
   have Ny157:=Aside0.mk hy157
   clear hy157
   have H':=Aside0.mk H
   clear H
   go_enter Try.func51,Try.ntmps51
   go_wp2_with (first | ((with_reducible refine gate_dst (N:=16) rfl ?_);refine Kd.R_make (Kd.int .u32) _ 78 rfl (N:=16) rfl 31 _ _ rfl ji3 rfl rfl Try.underlying31 (.int .u32 0) 4 info78 rfl (by decide) (by omega) 0 (ok:=fun _ => True) (okp:=fun _ => True) rfl (fun _ hk => hk) trivial (of_decide_eq_true vD) (Nat.le_trans (Nat.mul_le_mul_right _ (of_decide_eq_true vD:ji3.toNat≤70368744177664)) (by omega)) (Below.refl _ _) (Nat.le_refl _) ?_;intro v158 w6 ho7 hb hg_ hnew_;clear hg_ hnew_;(first | rw [← Ny157.out] at ho7 | (simp only [Int.reduceToNat] at ho7;rw [← Ny157.out] at ho7));have n0_:=Aside0.mk (Kd.R_lower (Kd.R_newM (M:=fun k_ => (w.heap.size≤k_)) ho7 (below_size (vB HB.out)) (fun k_ h_ => h_)) (below_size (vB HB.out)));have n1_:=Aside0.mk (below_step (vB HB.out) hb);clear HB;have HO159:=n0_;have HB:=n1_;clear n0_ n1_;clear hb ho7))
   go_loopg [19] k (fun kq v19 w' => ∃ (x5_1:List Int) (x19_1:Int),v19 = .int .i64 x19_1∧Aside0 (sconceref03_Mul.l0 kq l1 x5_1 l0 (l0.length:Int) x19_1 = some r)∧Aside0 (kq≤k)∧Aside0 (Kd.R (Kd.int .u32) 78 w' w.heap.size (fun k_ => (w.heap.size≤k_)) v158 x5_1)∧Aside0 (Below w.heap.size w w'))
   case atStart => exact ⟨(y157),(0),(by first | rfl | (simp;done) | (simp [*];done)),H',⟨Nat.le_refl _⟩,⟨by (with_reducible repeat (first | apply Kd.R_alloc | apply Kd.R_drewN | apply Kd.R_drew));exact Kd.R_mono HO159.out (fun _ hk => hk.1)⟩,⟨by repeat (first | (with_reducible first | exact HB.out | apply below_alloc | apply pw_below_drewN | apply below_drew1) | exact HB.out)⟩⟩
   case round =>
    clear H'
    try clear c1
    try clear p2
    try clear c4
    try clear c4b0
    try clear c4b1
    try clear c5
    try clear c5b0
    try clear c5b1
    try clear p6
    obtain ⟨x5_1,x19_1,rfl,HA,HK1,HO_5,HB⟩:=hrel
    cases gk with
    | zero => exact absurd HA.out (by simp [sconceref03_Mul.l0])
    | succ k1 =>
     have H:=HA.out
     clear HA
     simp only [sconceref03_Mul.l0] at H
     by_cases c8:x19_1 < (l0.length:Int)
     ·
      rw [if_pos c8] at H
      have c8b0:decide (x19_1 < (l0.length:Int)) = true:=decide_eq_true c8
      clear c8
      by_cases c9:0≤x19_1
      ·
       rw [if_pos c9] at H
       have c9b0:decide (0≤x19_1) = true:=decide_eq_true c9
       clear c9
       by_cases c10:x19_1 < (l0.length:Int)
       ·
        rw [if_pos c10] at H
        have c10b0:decide (x19_1 < (l0.length:Int)) = true:=decide_eq_true c10
        clear c10
        have H':=Aside0.mk H
        clear H
        have p163:0≤(x19_1:Int):=of_decide_eq_true vD
        have q163:x19_1 < (l0.length:Int):=of_decide_eq_true vD
        obtain ⟨ad163,e163,hx163_0⟩:=Kd.at_int HR0.out x19_1 p163 q163
        cases e163
        replace hx163_0:=(HB.out.cell (World.block_lt_of_cell? w _ hx163_0)).trans hx163_0
        replace p163:=eq_true p163
        replace q163:=eq_true q163
        go_wp2
        go_loopg [8,26] k1 (fun kq v8 v26 w' => ∃ (x5_2:List Int) (x8_2:Int) (x26_2:Int),v8 = .int .u64 x8_2∧v26 = .int .i64 x26_2∧Aside0 (sconceref03_Mul.l1 kq l1 x5_2 x19_1 (rd l0 x19_1) x8_2 l0 (l0.length:Int) x19_1 l1 (l1.length:Int) x26_2 = some r)∧Aside0 (kq≤k1)∧Aside0 (Kd.R (Kd.int .u32) 78 w' w.heap.size (fun k_ => (w.heap.size≤k_)) v158 x5_2)∧Aside0 (Below w.heap.size w w'))
        case atStart => exact ⟨(x5_1),(0),(0),(by first | rfl | (simp;done) | (simp [*];done)),(by first | rfl | (simp;done) | (simp [*];done)),H',⟨Nat.le_refl _⟩,⟨by (with_reducible repeat (first | apply Kd.R_alloc | apply Kd.R_drewN | apply Kd.R_drew));exact HO_5.out⟩,⟨by repeat (first | (with_reducible first | exact HB.out | apply below_alloc | apply pw_below_drewN | apply below_drew1) | exact HB.out)⟩⟩
        case round =>
         clear H'
         try clear c1
         try clear p1
         try clear q1
         try clear hx1
         try clear p2
         try clear c4
         try clear c4b0
         try clear c4b1
         try clear c5
         try clear c5b0
         try clear c5b1
         try clear p6
         try clear c8
         try clear c8b0
         try clear c9
         try clear c9b0
         try clear c10
         try clear c10b0
         try clear hx163_0
         try clear p163
         try clear p2
         try clear p6
         try clear q163
         obtain ⟨x5_2,x8_2,x26_2,rfl,rfl,HA,HK2,HO_5,HB⟩:=hrel
         cases gk with
         | zero => exact absurd HA.out (by simp [sconceref03_Mul.l1])
         | succ k2 =>
          have H:=HA.out
          clear HA
          simp only [sconceref03_Mul.l1] at H
          by_cases c11:x26_2 < (l1.length:Int)
          ·
           rw [if_pos c11] at H
           have c11b0:decide (x26_2 < (l1.length:Int)) = true:=decide_eq_true c11
           clear c11
           by_cases c12:0≤x26_2
           ·
            rw [if_pos c12] at H
            have c12b0:decide (0≤x26_2) = true:=decide_eq_true c12
            clear c12
            by_cases c13:x26_2 < (l1.length:Int)
            ·
             rw [if_pos c13] at H
             have c13b0:decide (x26_2 < (l1.length:Int)) = true:=decide_eq_true c13
             clear c13
             obtain ⟨ji14,hji14⟩:∃ j_:Int,(wrap64 (x19_1 + x26_2)) = j_:=⟨_,rfl⟩
             replace H:(if 0≤(ji14) then (if (ji14) < (x5_2.length:Int) then (sconceref03_Mul.l1 k2 l1 (x5_2.set ((ji14):Int).toNat ((IntKind.u64.wrap (x8_2 + (IntKind.u64.wrap ((IntKind.u64.wrap ((IntKind.u64.wrap ((rd l0 x19_1))) * (IntKind.u64.wrap (rd l1 x26_2)))) + (IntKind.u64.wrap (rd x5_2 (ji14))))))) % 4294967296)) x19_1 (rd l0 x19_1) ((IntKind.u64.wrap (x8_2 + (IntKind.u64.wrap ((IntKind.u64.wrap ((IntKind.u64.wrap ((rd l0 x19_1))) * (IntKind.u64.wrap (rd l1 x26_2)))) + (IntKind.u64.wrap (rd x5_2 (ji14))))))) / 4294967296) l0 (l0.length:Int) x19_1 l1 (l1.length:Int) (wrap64 (x26_2 + 1))) else (none)) else (none)) = some r:=by first | (rw [hji14] at H;exact H) | (simp only [hji14] at H ⊢;exact H)
             have hji14w:(IntKind.i64.wrap (x19_1 + x26_2)) = ji14:=(i64_w _).trans hji14
             by_cases c15:0≤(ji14)
             ·
              rw [if_pos c15] at H
              have c15b0:decide (0≤(ji14)) = true:=decide_eq_true c15
              clear c15
              by_cases c16:(ji14) < (x5_2.length:Int)
              ·
               rw [if_pos c16] at H
               have c16b0:decide ((ji14) < (x5_2.length:Int)) = true:=decide_eq_true c16
               clear c16
               obtain ⟨y166,hy166⟩:∃ y_:List Int,y_ = (x5_2.set ((ji14):Int).toNat ((IntKind.u64.wrap (x8_2 + (IntKind.u64.wrap ((IntKind.u64.wrap ((IntKind.u64.wrap ((rd l0 x19_1))) * (IntKind.u64.wrap (rd l1 x26_2)))) + (IntKind.u64.wrap (rd x5_2 (ji14))))))) % 4294967296)):=⟨_,rfl⟩
               replace H:(sconceref03_Mul.l1 k2 l1 y166 x19_1 (rd l0 x19_1) ((IntKind.u64.wrap (x8_2 + (IntKind.u64.wrap ((IntKind.u64.wrap ((IntKind.u64.wrap ((rd l0 x19_1))) * (IntKind.u64.wrap (rd l1 x26_2)))) + (IntKind.u64.wrap (rd x5_2 (ji14))))))) / 4294967296) l0 (l0.length:Int) x19_1 l1 (l1.length:Int) (wrap64 (x26_2 + 1))) = some r:=by first | (rw [hy166];with_reducible exact H) | (have H2_:=(Option.bind_some _ _).symm.trans H;rw [hy166];with_reducible exact H2_) | (have H2_:=(Option.bind_some _ _).symm.trans H;with_reducible exact H2_) | with_reducible exact H | (rw [hy166];exact H) | exact H
               have Ny166:=Aside0.mk hy166
               clear hy166
               have H':=Aside0.mk H
               clear H
               have p164:0≤(x26_2:Int):=of_decide_eq_true vD
               have q164:x26_2 < (l1.length:Int):=of_decide_eq_true vD
               obtain ⟨ad164,e164,hx164_0⟩:=Kd.at_int HR1.out x26_2 p164 q164
               cases e164
               replace hx164_0:=(HB.out.cell (World.block_lt_of_cell? w _ hx164_0)).trans hx164_0
               replace p164:=eq_true p164
               replace q164:=eq_true q164
               obtain ⟨Ao18,co18,eo18⟩:=Kd.R_slice HO_5.out
               subst eo18
               have p165:0≤((ji14):Int):=of_decide_eq_true vD
               have q165:(ji14) < (x5_2.length:Int):=of_decide_eq_true vD
               obtain ⟨ad165,e165,hx165_0⟩:=Kd.at_int (Kd.R_reads' HO_5.out).2.2 (ji14) p165 q165
               cases e165
               replace p165:=eq_true p165
               replace q165:=eq_true q165
               have p17:0≤((ji14):Int):=of_decide_eq_true vD
               have q17:((ji14):Int) < ((x5_2.length:Int):Int):=of_decide_eq_true vD
               obtain ⟨go17,co17,eo17,gb17,gl17,cl17,HG17⟩:=Kd.R_form HO_5.out (by omega)
               (first | cases eo17 | (injection eo17 with ea_ en_ ec_;(first | subst ea_ | (injection ea_ with ea_;subst ea_));subst ec_;clear en_))
               have GB17:=Aside0.mk gb17
               have GG17:=Aside0.mk HG17
               clear gb17 gl17 HG17
               (first | simp only [add_plain] at hx165_0 | skip)
               obtain ⟨hx17_0,hf17_0⟩:=Kd.R_celln 0 HO_5.out ((ji14):Int) p17 q17
               replace p17:=eq_true p17
               replace q17:=eq_true q17
               have HP19:=Kd.R_putg HO_5.out ((ji14):Int) ((IntKind.u64.wrap (x8_2 + (IntKind.u64.wrap ((IntKind.u64.wrap ((IntKind.u64.wrap ((rd l0 x19_1))) * (IntKind.u64.wrap (rd l1 x26_2)))) + (IntKind.u64.wrap (rd x5_2 (ji14))))))) % 4294967296)
               go_wp2_with (first | ((with_reducible refine gate_store (t:=78) (p:=52) rfl ?_);refine store_event (t:=78) (p:=52) (v:=?vo_w20) (w1:=(wr.setCell ⟨go17,((ji14):Int).toNat,none⟩ (.int .u32 ((IntKind.u64.wrap (x8_2 + (IntKind.u64.wrap ((IntKind.u64.wrap ((IntKind.u64.wrap ((rd l0 x19_1))) * (IntKind.u64.wrap (rd l1 x26_2)))) + (IntKind.u64.wrap (rd x5_2 (ji14))))))) % 4294967296)))) ?hg ?ho ?hn ?hr ?_;(case ho => rfl);(case hg => rfl);(case hn => rfl);(case hr => first | (go_simp;done) | (go_simp;rfl));intro w20 hw;have hg:wr.grownBy w20 (some go17):=(by rw [hw];exact HP19.2);have hp_:Kd.R (Kd.int .u32) 78 w20 w.heap.size (fun k_ => (w.heap.size≤k_)) (.slice (some ⟨go17,0,none⟩) x5_2.length co18) y166:=(by rw [hw,Ny166.out];exact HP19.1);clear HP19;have n0_:=Aside0.mk (hp_);have n1_:=Aside0.mk ((by rw [hw];exact below_set (HB.out) GB17.out:Below w.heap.size w w20));clear HO_5;clear HB;have HO_5:=n0_;have HB:=n1_;clear n0_ n1_;clear hg hw hp_))
               go_roundg k2
               case measure => have:=HK1.out;have:=HK2.out;omega
               case rel => exact ⟨(y166),((IntKind.u64.wrap (x8_2 + (IntKind.u64.wrap ((IntKind.u64.wrap ((IntKind.u64.wrap ((rd l0 x19_1))) * (IntKind.u64.wrap (rd l1 x26_2)))) + (IntKind.u64.wrap (rd x5_2 (ji14))))))) / 4294967296),(wrap64 (x26_2 + 1)),(by first | rfl | (simp;done) | (simp only [← hji14] <;> (first | rfl | simp)) | (simp [*];done)),(by first | rfl | (simp;done) | (simp [*];done)),H',⟨by have:=HK1.out;have:=HK2.out;omega⟩,⟨by (with_reducible repeat (first | apply Kd.R_alloc | apply Kd.R_drewN | apply Kd.R_drew));exact HO_5.out⟩,⟨by repeat (first | (with_reducible first | exact HB.out | apply below_alloc | apply pw_below_drewN | apply below_drew1) | exact HB.out)⟩⟩
              ·
               rw [if_neg c16] at H
               exact absurd H (by simp)
             ·
              rw [if_neg c15] at H
              exact absurd H (by simp)
            ·
             rw [if_neg c13] at H
             exact absurd H (by simp)
           ·
            rw [if_neg c12] at H
            exact absurd H (by simp)
          ·
           rw [if_neg c11] at H
           have c11b0:decide (x26_2 < (l1.length:Int)) = false:=decide_eq_false c11
           clear c11
           obtain ⟨ji21,hji21⟩:∃ j_:Int,(wrap64 (x19_1 + (l1.length:Int))) = j_:=⟨_,rfl⟩
           replace H:(if 0≤(ji21) then (if (ji21) < (x5_2.length:Int) then (sconceref03_Mul.l0 k2 l1 (x5_2.set ((ji21):Int).toNat ((x8_2) % 4294967296)) l0 (l0.length:Int) (wrap64 (x19_1 + 1))) else (none)) else (none)) = some r:=by first | (rw [hji21] at H;exact H) | (simp only [hji21] at H ⊢;exact H)
           have hji21w:(IntKind.i64.wrap (x19_1 + (l1.length:Int))) = ji21:=(i64_w _).trans hji21
           by_cases c22:0≤(ji21)
           ·
            rw [if_pos c22] at H
            have c22b0:decide (0≤(ji21)) = true:=decide_eq_true c22
            clear c22
            by_cases c23:(ji21) < (x5_2.length:Int)
            ·
             rw [if_pos c23] at H
             have c23b0:decide ((ji21) < (x5_2.length:Int)) = true:=decide_eq_true c23
             clear c23
             obtain ⟨y167,hy167⟩:∃ y_:List Int,y_ = (x5_2.set ((ji21):Int).toNat ((x8_2) % 4294967296)):=⟨_,rfl⟩
             replace H:(sconceref03_Mul.l0 k2 l1 y167 l0 (l0.length:Int) (wrap64 (x19_1 + 1))) = some r:=by first | (rw [hy167];with_reducible exact H) | (have H2_:=(Option.bind_some _ _).symm.trans H;rw [hy167];with_reducible exact H2_) | (have H2_:=(Option.bind_some _ _).symm.trans H;with_reducible exact H2_) | with_reducible exact H | (rw [hy167];exact H) | exact H
             have Ny167:=Aside0.mk hy167
             clear hy167
             have H':=Aside0.mk H
             clear H
             have p24:0≤((ji21):Int):=of_decide_eq_true vD
             have q24:((ji21):Int) < ((x5_2.length:Int):Int):=of_decide_eq_true vD
             obtain ⟨go24,co24,eo24,gb24,gl24,cl24,HG24⟩:=Kd.R_form HO_5.out (by omega)
             (first | cases eo24 | (injection eo24 with ea_ en_ ec_;(first | subst ea_ | (injection ea_ with ea_;subst ea_));subst ec_;clear en_))
             have GB24:=Aside0.mk gb24
             have GG24:=Aside0.mk HG24
             clear gb24 gl24 HG24
             obtain ⟨hx24_0,hf24_0⟩:=Kd.R_celln 0 HO_5.out ((ji21):Int) p24 q24
             replace p24:=eq_true p24
             replace q24:=eq_true q24
             have HP25:=Kd.R_putg HO_5.out ((ji21):Int) ((x8_2) % 4294967296)
             go_wp2_with (first | ((with_reducible refine gate_store (t:=78) (p:=63) rfl ?_);refine store_event (t:=78) (p:=63) (v:=?vo_w26) (w1:=(wr.setCell ⟨go24,((ji21):Int).toNat,none⟩ (.int .u32 ((x8_2) % 4294967296)))) ?hg ?ho ?hn ?hr ?_;(case ho => rfl);(case hg => rfl);(case hn => rfl);(case hr => first | (go_simp;done) | (go_simp;rfl));intro w26 hw;have hg:wr.grownBy w26 (some go24):=(by rw [hw];exact HP25.2);have hp_:Kd.R (Kd.int .u32) 78 w26 w.heap.size (fun k_ => (w.heap.size≤k_)) (.slice (some ⟨go24,0,none⟩) x5_2.length co24) y167:=(by rw [hw,Ny167.out];exact HP25.1);clear HP25;have n0_:=Aside0.mk (hp_);have n1_:=Aside0.mk ((by rw [hw];exact below_set (HB.out) GB24.out:Below w.heap.size w w26));clear HO_5;clear HB;have HO_5:=n0_;have HB:=n1_;clear n0_ n1_;clear hg hw hp_))
             go_roundg k2
             case measure => have:=HK1.out;have:=HK2.out;omega
             case rel => exact ⟨(y167),(wrap64 (x19_1 + 1)),(by first | rfl | (simp;done) | (simp [*];done)),H',⟨by have:=HK1.out;have:=HK2.out;omega⟩,⟨by (with_reducible repeat (first | apply Kd.R_alloc | apply Kd.R_drewN | apply Kd.R_drew));exact HO_5.out⟩,⟨by repeat (first | (with_reducible first | exact HB.out | apply below_alloc | apply pw_below_drewN | apply below_drew1) | exact HB.out)⟩⟩
            ·
             rw [if_neg c23] at H
             exact absurd H (by simp)
           ·
            rw [if_neg c22] at H
            exact absurd H (by simp)
       ·
        rw [if_neg c10] at H
        exact absurd H (by simp)
      ·
       rw [if_neg c9] at H
       exact absurd H (by simp)
     ·
      rw [if_neg c8] at H
      have c8b0:decide (x19_1 < (l0.length:Int)) = false:=decide_eq_false c8
      clear c8
      replace H:=Option.bind_eq_some_iff.mp H
      obtain ⟨t160,A270,H⟩:=H
      replace H:(some t160) = some r:=H
      have A27:=Aside0.mk A270
      clear A270
      obtain rfl:=Option.some.inj H
      obtain ⟨Ao28,co28,eo28⟩:=Kd.R_slice HO_5.out
      subst eo28
      go_wp2_with (first | ((with_reducible refine gate_callee (f:=52) rfl ?_);refine goesL_ (some 66) rfl rfl Try.func52 (by kernel_rfl) rfl #[.slice Ao28 x5_1.length co28] rfl vA ?_;(with_reducible refine (sconceref03_trim.calls k1 (fun k_ => some k_ = (.slice Ao28 x5_1.length co28:Value).ownBlock) _ _ x5_1 t160 _ ?side1 A27.out).mono ?_);(case side1 => exact Kd.R_V (Kd.R_tight rfl (HO_5.out)));rintro e w29 ⟨v161,rfl,ho0,hb⟩;refine ⟨_,rfl,?_⟩;have n0_:=Aside0.mk (Kd.R_below (vR HO_5.out) hb);have n1_:=Aside0.mk (Kd.V_lower (Kd.V_mono (ok':=fun k_ => (w.heap.size≤k_)) ho0 (fun k_ hk_ => Or.elim hk_ (fun hs_ => ((HO_5.out).1 k_ hs_.symm)) (fun hn_ => (Nat.le_trans (below_size (vB HB.out)) hn_)))) (below_size (vB HB.out)));have n2_:=Aside0.mk (below_step (vB HB.out) hb);clear HO_5;clear HB;have HO_5:=n0_;have HO162:=n1_;have HB:=n2_;clear n0_ n1_ n2_;(try clear hb);(try clear hb2);(try clear hk);(try clear hi);(try clear ho0)))
      go_ret
      exact ⟨_,by first | rfl | (simp [errW_none,errW_some] <;> rfl) | (simp only [← hji3];first | rfl | (simp [errW_none,errW_some] <;> rfl)) | (simp [*,errW_none,errW_some] <;> rfl),by (with_reducible repeat (first | apply Kd.V_alloc | apply Kd.V_drewN | apply Kd.V_drew));exact HO162.out,by repeat (first | (with_reducible first | exact HB.out | apply below_alloc | apply pw_below_drewN | apply below_drew1) | exact HB.out)⟩
  ·
   rw [if_neg c5] at H
   exact absurd H (by simp)
 ·
  rw [if_neg c4] at H
  exact absurd H (by simp)
end Go.Proofs.Ytalfniohakahlaa.X
