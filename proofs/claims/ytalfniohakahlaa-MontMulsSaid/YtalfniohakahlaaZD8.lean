/- Texts of the walk and of the plain laws, laid together by a program: X3. -/
import Derived.Test.YtalfniohakahlaaZD0
import Derived.Test.YtalfniohakahlaaZD1
import Derived.Test.YtalfniohakahlaaZD2
import Derived.Test.YtalfniohakahlaaZD5
import Derived.Test.YtalfniohakahlaaZD4
import Derived.Test.YtalfniohakahlaaZD3
set_option maxHeartbeats 8000000
set_option maxRecDepth 100000
namespace Go.Proofs.Ytalfniohakahlaa.X
open Go.RowKit Go.Proofs.YtalfniohakahlaaW.PrintWords Go.Proofs.YtalfniohakahlaaW.PrintLast Go.Proofs.YtalfniohakahlaaW.PrintMore
attribute [local go_sem] max2_int min2_int max_two min_two max_three min_three max_four min_four
set_option linter.unusedVariables false
set_option linter.unusedSimpArgs false
def sconceref03_Same.l0:Nat→List Int→List Int→Int→Int→Option (Bool)
 | 0,_,_,_,_ => none
 | k + 1,x0,x1,x12,x13 => if x13 < x12 then (if 0≤x13 then (if x13 < (x0.length:Int) then (if x13 < (x1.length:Int) then (if (rd x0 x13) = (rd x1 x13) then (sconceref03_Same.l0 k x0 x1 x12 (wrap64 (x13 + 1))) else (some false)) else (none)) else (none)) else (none)) else (some true)
def sconceref03_Same.f (k:Nat) (l0:List Int) (l1:List Int):Option (Bool):=if (l0.length:Int) = (l1.length:Int) then (sconceref03_Same.l0 k l0 l1 (l0.length:Int) 0) else (some false)
theorem sconceref03_Same.calls (k:Nat) (A0:Option Addr) (c0:Nat) (l0:List Int) (A1:Option Addr) (c1:Nat) (l1:List Int) (r:Bool) (w:World) (hr0:Kd.C (Kd.int .u64) w A0 l0.length l0) (hc0:l0.length≤c0) (hr1:Kd.C (Kd.int .u64) w A1 l1.length l1) (hc1:l1.length≤c1) (h:sconceref03_Same.f k l0 l1 = some r) :
  Calls Try.prog 18 #[.slice A0 l0.length c0,.slice A1 l1.length c1] w fun e w' => e = .returned (.bool r)∧Drawn0 w w':=by
 have HR0:=Aside0.mk hr0
 have HC0:=Aside0.mk hc0
 clear hr0 hc0
 have HR1:=Aside0.mk hr1
 have HC1:=Aside0.mk hc1
 clear hr1 hc1
 have H:(if (l0.length:Int) = (l1.length:Int) then (sconceref03_Same.l0 k l0 l1 (l0.length:Int) 0) else (some false)) = some r:=h
 clear h
 by_cases c3:(l0.length:Int) = (l1.length:Int)
 ·
  rw [if_pos c3] at H
  have c3b0:((l0.length:Int) == (l1.length:Int)) = true:=beq_iff_eq.mpr c3
  have c3b1:((l0.length:Int) != (l1.length:Int)) = false:=bne_eq_false_iff_eq.mpr c3
  have c3b2:(l0.length == l1.length) = true:=by first | simpa using c3 | (simp at c3 ⊢;omega)
  clear c3
  have H':=Aside0.mk H
  clear H
  go_enter Try.func18,Try.ntmps18
  go_wp2
  repeat (go_quiet (fail);try go_wp2)
  go_loopg [13] k (fun kq v13 w' => ∃ (x13_1:Int),v13 = .int .i64 x13_1∧Aside0 (sconceref03_Same.l0 kq l0 l1 (l0.length:Int) x13_1 = some r)∧Aside0 (kq≤k)∧Drawn0 w w')
  case atStart => exact ⟨(0),(by first | rfl | (simp;done) | (simp [*];done)),H',⟨Nat.le_refl _⟩,by repeat (first | exact Drawn0.refl _ | apply Drawn0.step)⟩
  case round =>
   clear H'
   try clear c1
   try clear p2
   try clear c3
   try clear c3b0
   try clear c3b1
   try clear c3b2
   obtain ⟨x13_1,rfl,HA,HK1,⟨m1,rfl⟩⟩:=hrel
   cases gk with
   | zero => exact absurd HA.out (by simp [sconceref03_Same.l0])
   | succ k1 =>
    have H:=HA.out
    clear HA
    simp only [sconceref03_Same.l0] at H
    by_cases c4:x13_1 < (l0.length:Int)
    ·
     rw [if_pos c4] at H
     have c4b0:decide (x13_1 < (l0.length:Int)) = true:=decide_eq_true c4
     clear c4
     by_cases c5:0≤x13_1
     ·
      rw [if_pos c5] at H
      have c5b0:decide (0≤x13_1) = true:=decide_eq_true c5
      clear c5
      by_cases c6:x13_1 < (l0.length:Int)
      ·
       rw [if_pos c6] at H
       have c6b0:decide (x13_1 < (l0.length:Int)) = true:=decide_eq_true c6
       clear c6
       by_cases c7:x13_1 < (l1.length:Int)
       ·
        rw [if_pos c7] at H
        have c7b0:decide (x13_1 < (l1.length:Int)) = true:=decide_eq_true c7
        clear c7
        by_cases c8:(rd l0 x13_1) = (rd l1 x13_1)
        ·
         rw [if_pos c8] at H
         have c8b0:((rd l0 x13_1) == (rd l1 x13_1)) = true:=beq_iff_eq.mpr c8
         have c8b1:((rd l0 x13_1) != (rd l1 x13_1)) = false:=bne_eq_false_iff_eq.mpr c8
         clear c8
         have H':=Aside0.mk H
         clear H
         have p117:0≤(x13_1:Int):=of_decide_eq_true vD
         have q117:x13_1 < (l0.length:Int):=of_decide_eq_true vD
         obtain ⟨ad117,e117,hx117_0⟩:=Kd.at_int HR0.out x13_1 p117 q117
         cases e117
         replace p117:=eq_true p117
         replace q117:=eq_true q117
         have p118:0≤(x13_1:Int):=of_decide_eq_true vD
         have q118:x13_1 < (l1.length:Int):=of_decide_eq_true vD
         obtain ⟨ad118,e118,hx118_0⟩:=Kd.at_int HR1.out x13_1 p118 q118
         cases e118
         replace p118:=eq_true p118
         replace q118:=eq_true q118
         go_wp2
         repeat (go_quiet (fail);try go_wp2)
         go_roundg k1
         case measure => have:=HK1.out;omega
         case rel => exact ⟨(wrap64 (x13_1 + 1)),(by first | rfl | (simp;done) | (simp [*];done)),H',⟨by have:=HK1.out;omega⟩,by repeat (first | exact Drawn0.refl _ | apply Drawn0.step)⟩
        ·
         rw [if_neg c8] at H
         have c8b0:((rd l0 x13_1) == (rd l1 x13_1)) = false:=beq_eq_false_iff_ne.mpr c8
         have c8b1:((rd l0 x13_1) != (rd l1 x13_1)) = true:=bne_iff_ne.mpr c8
         obtain rfl:=Option.some.inj H
         have p117:0≤(x13_1:Int):=of_decide_eq_true vD
         have q117:x13_1 < (l0.length:Int):=of_decide_eq_true vD
         obtain ⟨ad117,e117,hx117_0⟩:=Kd.at_int HR0.out x13_1 p117 q117
         cases e117
         replace p117:=eq_true p117
         replace q117:=eq_true q117
         have p118:0≤(x13_1:Int):=of_decide_eq_true vD
         have q118:x13_1 < (l1.length:Int):=of_decide_eq_true vD
         obtain ⟨ad118,e118,hx118_0⟩:=Kd.at_int HR1.out x13_1 p118 q118
         cases e118
         replace p118:=eq_true p118
         replace q118:=eq_true q118
         go_wp2
         repeat (go_quiet (fail);try go_wp2)
         go_ret
         exact ⟨by first | rfl | (simp;done) | (simp [*];done),by repeat (first | exact Drawn0.refl _ | apply Drawn0.step)⟩
       ·
        rw [if_neg c7] at H
        exact absurd H (by simp)
      ·
       rw [if_neg c6] at H
       exact absurd H (by simp)
     ·
      rw [if_neg c5] at H
      exact absurd H (by simp)
    ·
     rw [if_neg c4] at H
     have c4b0:decide (x13_1 < (l0.length:Int)) = false:=decide_eq_false c4
     clear c4
     obtain rfl:=Option.some.inj H
     go_wp2
     repeat (go_quiet (fail);try go_wp2)
     go_ret
     exact ⟨by first | rfl | (simp;done) | (simp [*];done),by repeat (first | exact Drawn0.refl _ | apply Drawn0.step)⟩
 ·
  rw [if_neg c3] at H
  have c3b0:((l0.length:Int) == (l1.length:Int)) = false:=beq_eq_false_iff_ne.mpr c3
  have c3b1:((l0.length:Int) != (l1.length:Int)) = true:=bne_iff_ne.mpr c3
  have c3b2:(l0.length == l1.length) = false:=by first | simpa using c3 | (simp at c3 ⊢;omega)
  obtain rfl:=Option.some.inj H
  go_enter Try.func18,Try.ntmps18
  go_wp2
  repeat (go_quiet (fail);try go_wp2)
  go_ret
  exact ⟨by first | rfl | (simp;done) | (simp [*];done),by repeat (first | exact Drawn0.refl _ | apply Drawn0.step)⟩
def sconceref03_trim.l0:Nat→List Int→Option (List Int)
 | 0,_ => none
 | k + 1,x0 => if (x0.length:Int) > 0 then (if 0≤(wrap64 ((x0.length:Int) - 1)) then (if (wrap64 ((x0.length:Int) - 1)) < (x0.length:Int) then (if (rd x0 (wrap64 ((x0.length:Int) - 1))) = 0 then (if (wrap64 ((x0.length:Int) - 1))≤(x0.length:Int) then (sconceref03_trim.l0 k (x0.take ((wrap64 ((x0.length:Int) - 1)):Int).toNat)) else (none)) else (some x0)) else (none)) else (none)) else (some x0)
def sconceref03_trim.f (k:Nat) (l0:List Int):Option (List Int):=sconceref03_trim.l0 k l0
theorem sconceref03_trim.calls (k:Nat) (P0_:Nat→Prop) (A0:Option Addr) (c0:Nat) (l0:List Int) (r:List Int) (w:World) (hs0:Kd.V (Kd.int .u32) 78 w w.heap.size (fun k_ => P0_ k_) (.slice A0 l0.length c0) l0) (h:sconceref03_trim.f k l0 = some r) :
  Calls Try.prog 52 #[.slice A0 l0.length c0] w fun e w' => ∃ v0_:Value,e = .returned (v0_)∧Kd.V (Kd.int .u32) 78 w' w.heap.size (fun k_ => (P0_ k_∨w.heap.size≤k_)) v0_ r∧Below w.heap.size w w':=by
 have HO0:=Aside0.mk (show Kd.V (Kd.int .u32) 78 w w.heap.size (fun k_ => (P0_ k_∨w.heap.size≤k_)) (.slice A0 l0.length c0) l0 from Kd.V_mono hs0 (fun k_ hk => .inl hk))
 have HB:=Aside0.mk (Below.refl w.heap.size w)
 have H:(sconceref03_trim.l0 k l0) = some r:=h
 clear h
 have H':=Aside0.mk H
 clear H
 go_enter Try.func52,Try.ntmps52
 go_wp2
 go_loopg [0] k (fun kq v0 w' => ∃ (x0_1:List Int),Aside0 (sconceref03_trim.l0 kq x0_1 = some r)∧Aside0 (kq≤k)∧Aside0 (Kd.V (Kd.int .u32) 78 w' w.heap.size (fun k_ => (P0_ k_∨w.heap.size≤k_)) v0 x0_1)∧Aside0 (Below w.heap.size w w'))
 case atStart => exact ⟨(l0),H',⟨Nat.le_refl _⟩,⟨by (with_reducible repeat (first | apply Kd.V_alloc | apply Kd.V_drewN | apply Kd.V_drew));exact HO0.out⟩,⟨by repeat (first | (with_reducible first | exact HB.out | apply below_alloc | apply pw_below_drewN | apply below_drew1) | exact HB.out)⟩⟩
 case round =>
  clear H'
  obtain ⟨x0_1,HA,HK1,HO_0,HB⟩:=hrel
  cases gk with
  | zero => exact absurd HA.out (by simp [sconceref03_trim.l0])
  | succ k1 =>
   have H:=HA.out
   clear HA
   simp only [sconceref03_trim.l0] at H
   by_cases c2:(x0_1.length:Int) > 0
   ·
    rw [if_pos c2] at H
    have c2b0:decide (0 < (x0_1.length:Int)) = true:=decide_eq_true c2
    have c2b1:decide (0 < x0_1.length) = true:=decide_eq_true (by omega)
    clear c2
    obtain ⟨ji3,hji3⟩:∃ j_:Int,(wrap64 ((x0_1.length:Int) - 1)) = j_:=⟨_,rfl⟩
    replace H:(if 0≤(ji3) then (if (ji3) < (x0_1.length:Int) then (if (rd x0_1 (ji3)) = 0 then (if (ji3)≤(x0_1.length:Int) then (sconceref03_trim.l0 k1 (x0_1.take ((ji3):Int).toNat)) else (none)) else (some x0_1)) else (none)) else (none)) = some r:=by first | (rw [hji3] at H;exact H) | (simp only [hji3] at H ⊢;exact H)
    have hji3w:(IntKind.i64.wrap ((x0_1.length:Int) - 1)) = ji3:=(i64_w _).trans hji3
    by_cases c4:0≤(ji3)
    ·
     rw [if_pos c4] at H
     have c4b0:decide (0≤(ji3)) = true:=decide_eq_true c4
     clear c4
     by_cases c5:(ji3) < (x0_1.length:Int)
     ·
      rw [if_pos c5] at H
      have c5b0:decide ((ji3) < (x0_1.length:Int)) = true:=decide_eq_true c5
      clear c5
      by_cases c6:(rd x0_1 (ji3)) = 0
      ·
       rw [if_pos c6] at H
       have c6b0:((rd x0_1 (ji3)) == 0) = true:=beq_iff_eq.mpr c6
       have c6b1:((rd x0_1 (ji3)) != 0) = false:=bne_eq_false_iff_eq.mpr c6
       clear c6
       have c7b0:=eq_true (of_decide_eq_true vD:0≤(ji3))
       by_cases c8:(ji3)≤(x0_1.length:Int)
       ·
        rw [if_pos c8] at H
        have c8b0:=eq_true c8
        have c8b1:decide ((ji3)≤(x0_1.length:Int)) = true:=decide_eq_true c8
        clear c8
        obtain ⟨y120,hy120⟩:∃ y_:List Int,y_ = (x0_1.take ((ji3):Int).toNat):=⟨_,rfl⟩
        replace H:(sconceref03_trim.l0 k1 y120) = some r:=by first | (rw [hy120];with_reducible exact H) | (have H2_:=(Option.bind_some _ _).symm.trans H;rw [hy120];with_reducible exact H2_) | (have H2_:=(Option.bind_some _ _).symm.trans H;with_reducible exact H2_) | with_reducible exact H | (rw [hy120];exact H) | exact H
        have Ny120:=Aside0.mk hy120
        clear hy120
        have H':=Aside0.mk H
        clear H
        obtain ⟨Ao9,co9,eo9⟩:=Kd.V_slice HO_0.out
        subst eo9
        have p119:0≤((ji3):Int):=of_decide_eq_true vD
        have q119:(ji3) < (x0_1.length:Int):=of_decide_eq_true vD
        obtain ⟨ad119,e119,hx119_0⟩:=Kd.at_int (Kd.V_reads' HO_0.out).2.2 (ji3) p119 q119
        cases e119
        replace p119:=eq_true p119
        replace q119:=eq_true q119
        have q10:((ji3):Int)≤((x0_1.length:Int):Int):=of_decide_eq_true vD
        obtain ⟨i010,hi010,_,hsz10,_⟩:=info_parts info78
        have hroom10:x0_1.length≤co9:=(Kd.V_reads' HO_0.out).2.1
        have hC10:Kd.F (Kd.int .u32) _ _ (some ad119) x0_1.length x0_1:=(Kd.V_at (base:=w.heap.size) HO_0.out).2.2
        have hcut10:=cut_to (P:=Try.prog) 31 78 .i64 Try.underlying31 hi010 (some ad119) x0_1.length co9 (ji3) (of_decide_eq_true vD) q10 hroom10
        have hr10:=Kd.F_take (m:=((ji3):Int).toNat) hC10 (by omega)
        have hy10:y120.length = ((ji3):Int).toNat:=(by rw [Ny120.out,List.length_take];omega)
        rw [← Ny120.out] at hr10
        rw [← hy10] at hcut10
        have HO124:=Aside0.mk (show Kd.V (Kd.int .u32) 78 _ w.heap.size _ (.slice (some ad119) y120.length co9) y120 from Kd.V_mk (by omega) hr10)
        have HC124:=Aside0.mk (show y120.length≤co9 from by omega)
        clear hr10 hC10 hroom10 hi010 hsz10
        have KY10:=Aside0.mk hy10
        clear hy10
        replace q10:=eq_true q10
        go_wp2
        go_roundg k1
        case measure => have:=HK1.out;omega
        case rel => exact ⟨(y120),H',⟨by have:=HK1.out;omega⟩,⟨by (with_reducible repeat (first | apply Kd.V_alloc | apply Kd.V_drewN | apply Kd.V_drew));exact HO124.out⟩,⟨by repeat (first | (with_reducible first | exact HB.out | apply below_alloc | apply pw_below_drewN | apply below_drew1) | exact HB.out)⟩⟩
       ·
        rw [if_neg c8] at H
        exact absurd H (by simp)
      ·
       rw [if_neg c6] at H
       have c6b0:((rd x0_1 (ji3)) == 0) = false:=beq_eq_false_iff_ne.mpr c6
       have c6b1:((rd x0_1 (ji3)) != 0) = true:=bne_iff_ne.mpr c6
       obtain rfl:=Option.some.inj H
       obtain ⟨Ao11,co11,eo11⟩:=Kd.V_slice HO_0.out
       subst eo11
       have p119:0≤((ji3):Int):=of_decide_eq_true vD
       have q119:(ji3) < (x0_1.length:Int):=of_decide_eq_true vD
       obtain ⟨ad119,e119,hx119_0⟩:=Kd.at_int (Kd.V_reads' HO_0.out).2.2 (ji3) p119 q119
       cases e119
       replace p119:=eq_true p119
       replace q119:=eq_true q119
       go_wp2
       go_ret
       exact ⟨_,by first | rfl | (simp [errW_none,errW_some] <;> rfl) | (simp only [← hji3];first | rfl | (simp [errW_none,errW_some] <;> rfl)) | (simp [*,errW_none,errW_some] <;> rfl),by (with_reducible repeat (first | apply Kd.V_alloc | apply Kd.V_drewN | apply Kd.V_drew));exact HO_0.out,by repeat (first | (with_reducible first | exact HB.out | apply below_alloc | apply pw_below_drewN | apply below_drew1) | exact HB.out)⟩
     ·
      rw [if_neg c5] at H
      exact absurd H (by simp)
    ·
     rw [if_neg c4] at H
     exact absurd H (by simp)
   ·
    rw [if_neg c2] at H
    have c2b0:decide (0 < (x0_1.length:Int)) = false:=decide_eq_false c2
    have c2b1:decide (0 < x0_1.length) = false:=decide_eq_false (by omega)
    clear c2
    obtain rfl:=Option.some.inj H
    obtain ⟨Ao12,co12,eo12⟩:=Kd.V_slice HO_0.out
    subst eo12
    go_wp2
    go_ret
    exact ⟨_,by first | rfl | (simp [errW_none,errW_some] <;> rfl) | (simp [*,errW_none,errW_some] <;> rfl),by (with_reducible repeat (first | apply Kd.V_alloc | apply Kd.V_drewN | apply Kd.V_drew));exact HO_0.out,by repeat (first | (with_reducible first | exact HB.out | apply below_alloc | apply pw_below_drewN | apply below_drew1) | exact HB.out)⟩
def sconceref03_Of.l0:Nat→List Int→List Int→Int→Int→Option (List Int)
 | 0,_,_,_,_ => none
 | k + 1,x3,x6,x7,x8 => if x8 < x7 then (if 0≤x8 then (if x8 < (x6.length:Int) then ((some (([(rd x6 x8) % 4294967296,((rd x6 x8) / 4294967296) % 4294967296]:List Int):List Int)).bind fun y126 => (if x3.length + y126.length < 35184372088832 then (sconceref03_Of.l0 k (x3 ++ y126) x6 x7 (wrap64 (x8 + 1))) else (none))) else (none)) else (none)) else ((sconceref03_trim.f k x3).bind fun t132 => (some t132))
def sconceref03_Of.f (k:Nat) (l0:List Int):Option (List Int):=sconceref03_Of.l0 k ([]:List Int) l0 (l0.length:Int) 0
theorem sconceref03_Of.calls (k:Nat) (A0:Option Addr) (c0:Nat) (l0:List Int) (r:List Int) (w:World) (hr0:Kd.C (Kd.int .u64) w A0 l0.length l0) (hc0:l0.length≤c0) (h:sconceref03_Of.f k l0 = some r) :
  Calls Try.prog 21 #[.slice A0 l0.length c0] w fun e w' => ∃ v0_:Value,e = .returned (v0_)∧Kd.V (Kd.int .u32) 78 w' w.heap.size (fun k_ => (w.heap.size≤k_)) v0_ r∧Below w.heap.size w w':=by
 have HR0:=Aside0.mk hr0
 have HC0:=Aside0.mk hc0
 clear hr0 hc0
 have HB:=Aside0.mk (Below.refl w.heap.size w)
 have H:(sconceref03_Of.l0 k ([]:List Int) l0 (l0.length:Int) 0) = some r:=h
 clear h
 have H':=Aside0.mk H
 clear H
 go_enter Try.func21,Try.ntmps21
 go_wp2
 go_loopg [3,8] k (fun kq v3 v8 w' => ∃ (x3_1:List Int) (x8_1:Int),v8 = .int .i64 x8_1∧Aside0 (sconceref03_Of.l0 kq x3_1 l0 (l0.length:Int) x8_1 = some r)∧Aside0 (kq≤k)∧Aside0 (Kd.R (Kd.int .u32) 78 w' w.heap.size (fun k_ => (w.heap.size≤k_)) v3 x3_1)∧Aside0 (Below w.heap.size w w'))
 case atStart => exact ⟨(([]:List Int)),(0),(by first | rfl | (simp;done) | (simp [*];done)),H',⟨Nat.le_refl _⟩,⟨by first | exact Kd.R_nil _ _ _ _ _ | exact Kd.N_nil _ _ _ _ _ | exact Kd.V_nil _ _ _ _ _ | exact Kd.Q_nil _ _ _ _ _ | exact Kd.S_nil _ _ _ _ _⟩,⟨by repeat (first | (with_reducible first | exact HB.out | apply below_alloc | apply pw_below_drewN | apply below_drew1) | exact HB.out)⟩⟩
 case round =>
  clear H'
  obtain ⟨x3_1,x8_1,rfl,HA,HK1,HO_3,HB⟩:=hrel
  cases gk with
  | zero => exact absurd HA.out (by simp [sconceref03_Of.l0])
  | succ k1 =>
   have H:=HA.out
   clear HA
   simp only [sconceref03_Of.l0] at H
   by_cases c2:x8_1 < (l0.length:Int)
   ·
    rw [if_pos c2] at H
    have c2b0:decide (x8_1 < (l0.length:Int)) = true:=decide_eq_true c2
    clear c2
    by_cases c3:0≤x8_1
    ·
     rw [if_pos c3] at H
     have c3b0:decide (0≤x8_1) = true:=decide_eq_true c3
     clear c3
     by_cases c4:x8_1 < (l0.length:Int)
     ·
      rw [if_pos c4] at H
      have c4b0:decide (x8_1 < (l0.length:Int)) = true:=decide_eq_true c4
      clear c4
      obtain ⟨y126,hy126⟩:∃ y_:List Int,y_ = (([(rd l0 x8_1) % 4294967296,((rd l0 x8_1) / 4294967296) % 4294967296]:List Int)):=⟨_,rfl⟩
      replace H:(if x3_1.length + y126.length < 35184372088832 then (sconceref03_Of.l0 k1 (x3_1 ++ y126) l0 (l0.length:Int) (wrap64 (x8_1 + 1))) else (none)) = some r:=by first | (rw [hy126];with_reducible exact H) | (have H2_:=(Option.bind_some _ _).symm.trans H;rw [hy126];with_reducible exact H2_) | (have H2_:=(Option.bind_some _ _).symm.trans H;with_reducible exact H2_) | with_reducible exact H | (rw [hy126];exact H) | exact H
      have Ny126:=Aside0.mk hy126
      clear hy126
      by_cases c5:x3_1.length + y126.length < 35184372088832
      ·
       rw [if_pos c5] at H
       have LMc5:=Aside0.mk c5
       clear c5
       obtain ⟨y129,hy129⟩:∃ y_:List Int,y_ = (x3_1 ++ y126):=⟨_,rfl⟩
       replace H:(sconceref03_Of.l0 k1 y129 l0 (l0.length:Int) (wrap64 (x8_1 + 1))) = some r:=by first | (rw [hy129];with_reducible exact H) | (have H2_:=(Option.bind_some _ _).symm.trans H;rw [hy129];with_reducible exact H2_) | (have H2_:=(Option.bind_some _ _).symm.trans H;with_reducible exact H2_) | with_reducible exact H | (rw [hy129];exact H) | exact H
       have Ny129:=Aside0.mk hy129
       clear hy129
       have H':=Aside0.mk H
       clear H
       have p125:0≤(x8_1:Int):=of_decide_eq_true vD
       have q125:x8_1 < (l0.length:Int):=of_decide_eq_true vD
       obtain ⟨ad125,e125,hx125_0⟩:=Kd.at_int HR0.out x8_1 p125 q125
       cases e125
       replace hx125_0:=(HB.out.cell (World.block_lt_of_cell? w _ hx125_0)).trans hx125_0
       replace p125:=eq_true p125
       replace q125:=eq_true q125
       go_wp2_with (first | ((with_reducible refine gate_dst (N:=18) rfl ?_);refine Kd.R_lit (Kd.int .u32) _ 78 ?hg (N:=18) ?hd (xs:=([(rd l0 x8_1) % 4294967296,((rd l0 x8_1) / 4294967296) % 4294967296]:List Int)) (inner:=[.int .u32 ((rd l0 x8_1) % 4294967296),.int .u32 (((rd l0 x8_1) / 4294967296) % 4294967296)]) (ok:=fun _ => True) (okp:=fun _ => True) ?hr ?hp (fun _ hk => hk) trivial (Below.refl _ _) (Nat.le_refl _) (by simp) ?_;(case hd => rfl);(case hg => rfl);(case hr => first | (go_simp;done) | (go_simp;rfl));(case hp => exact (Reps.one (show Kd.M (Kd.int .u32) _ _ _ ((rd l0 x8_1) % 4294967296) [.int .u32 ((rd l0 x8_1) % 4294967296)] from rfl) (Reps.one (show Kd.M (Kd.int .u32) _ _ _ (((rd l0 x8_1) / 4294967296) % 4294967296) [.int .u32 (((rd l0 x8_1) / 4294967296) % 4294967296)] from rfl) (Reps.none _ _))));intro v127 w6 ho7 hb hg_ hnew_;clear hg_ hnew_;(first | rw [← Ny126.out] at ho7 | (simp only [Int.reduceToNat] at ho7;rw [← Ny126.out] at ho7));have n0_:=Aside0.mk (Kd.R_elder' (vR HO_3.out) (Kd.R_base ho7) hb);have n1_:=Aside0.mk (Kd.R_lower (Kd.R_new' (Kd.R_newM (M:=fun k_ => (w.heap.size≤k_)) ho7 (below_size (vB HB.out)) (fun k_ h_ => h_)) (Kd.R_lt (vR HO_3.out))) (below_size (vB HB.out)));have n2_:=Aside0.mk (below_step (vB HB.out) hb);clear HO_3;clear HB;have HO_3:=n0_;have HO128:=n1_;have HB:=n2_;clear n0_ n1_ n2_;clear hb ho7;obtain ⟨Ao9,co9,eo9⟩:=Kd.R_slice HO128.out;subst eo9) | ((with_reducible refine gate_builtin (b:=.append) (xs:=#[.tmp 12,.tmp 18]) rfl ?_);at_builtin;refine Kd.R_append_rows (Kd.int .u32) (w0:=w) w.heap.size rfl (.tmp 12) (.tmp 18) 31 78 (.int .u32 0) 4 rfl Try.underlying31 info78 rfl (by decide) (by omega) u3 x3_1 y126 _ _ _ (fun k_ => (w.heap.size≤k_)∧some k_≠(.slice Ao9 y126.length co9:Value).ownBlock) (fun _ => False) rfl rfl ?aO ?aR (fun _ _ h => h) (fun _ h => h.elim) ?aF ?aB ?aS ?aL ?_;(case aR => repeat (first | exact (Kd.R_reads' HO128.out).2.2 | (with_reducible refine Kd.C_alloc ?_ _) | (with_reducible refine Kd.C_drewN ?_ _) | (with_reducible refine Kd.C_drew ?_)));(case aB => exact (vB HB.out));(case aF => exact (fun k_ hk => ⟨(Nat.le_trans (below_size (vB HB.out)) hk),Kd.fresh' (Kd.R_lt (vR HO128.out)) k_ hk⟩));(case aO => exact (vR HO_3.out));(case aS => exact (below_size (vB HB.out)));(case aL => have:=LMc5.out;omega);intro v130 w8 ho hb hg hat;rw [← Ny129.out] at ho;have n0_:=Aside0.mk (Kd.R_after (ok:=(fun k_ => (w.heap.size≤k_))) (by (with_reducible repeat (first | apply Kd.R_alloc | apply Kd.R_drewN | apply Kd.R_drew));exact Kd.R_mono HO128.out (fun _ hk => ⟨hk.1.1,hk.2⟩)) hg hat);have n1_:=Aside0.mk (hb);have n2_:=Aside0.mk (ho);clear HO128;clear HB;clear HO_3;have HO128:=n0_;have HB:=n1_;have HO131:=n2_;clear n0_ n1_ n2_;clear ho hb hg hat))
       go_roundg k1
       case measure => have:=HK1.out;omega
       case rel => exact ⟨(y129),(wrap64 (x8_1 + 1)),(by first | rfl | (simp;done) | (simp [*];done)),H',⟨by have:=HK1.out;omega⟩,⟨by (with_reducible repeat (first | apply Kd.R_alloc | apply Kd.R_drewN | apply Kd.R_drew));exact Kd.R_mono HO131.out (fun _ hk => hk.1)⟩,⟨by repeat (first | (with_reducible first | exact HB.out | apply below_alloc | apply pw_below_drewN | apply below_drew1) | exact HB.out)⟩⟩
      ·
       rw [if_neg c5] at H
       exact absurd H (by simp)
     ·
      rw [if_neg c4] at H
      exact absurd H (by simp)
    ·
     rw [if_neg c3] at H
     exact absurd H (by simp)
   ·
    rw [if_neg c2] at H
    have c2b0:decide (x8_1 < (l0.length:Int)) = false:=decide_eq_false c2
    clear c2
    replace H:=Option.bind_eq_some_iff.mp H
    obtain ⟨t132,A100,H⟩:=H
    replace H:(some t132) = some r:=H
    have A10:=Aside0.mk A100
    clear A100
    obtain rfl:=Option.some.inj H
    obtain ⟨Ao11,co11,eo11⟩:=Kd.R_slice HO_3.out
    subst eo11
    go_wp2_with (first | ((with_reducible refine gate_callee (f:=52) rfl ?_);refine goesL_ (some 22) rfl rfl Try.func52 (by kernel_rfl) rfl #[.slice Ao11 x3_1.length co11] rfl vA ?_;(with_reducible refine (sconceref03_trim.calls k1 (fun k_ => some k_ = (.slice Ao11 x3_1.length co11:Value).ownBlock) _ _ x3_1 t132 _ ?side1 A10.out).mono ?_);(case side1 => exact Kd.R_V (Kd.R_tight rfl (HO_3.out)));rintro e w12 ⟨v133,rfl,ho0,hb⟩;refine ⟨_,rfl,?_⟩;have n0_:=Aside0.mk (Kd.R_below (vR HO_3.out) hb);have n1_:=Aside0.mk (Kd.V_lower (Kd.V_mono (ok':=fun k_ => (w.heap.size≤k_)) ho0 (fun k_ hk_ => Or.elim hk_ (fun hs_ => ((HO_3.out).1 k_ hs_.symm)) (fun hn_ => (Nat.le_trans (below_size (vB HB.out)) hn_)))) (below_size (vB HB.out)));have n2_:=Aside0.mk (below_step (vB HB.out) hb);clear HO_3;clear HB;have HO_3:=n0_;have HO134:=n1_;have HB:=n2_;clear n0_ n1_ n2_;(try clear hb);(try clear hb2);(try clear hk);(try clear hi);(try clear ho0)))
    go_ret
    exact ⟨_,by first | rfl | (simp [errW_none,errW_some] <;> rfl) | (simp [*,errW_none,errW_some] <;> rfl),by (with_reducible repeat (first | apply Kd.V_alloc | apply Kd.V_drewN | apply Kd.V_drew));exact HO134.out,by repeat (first | (with_reducible first | exact HB.out | apply below_alloc | apply pw_below_drewN | apply below_drew1) | exact HB.out)⟩
def sconceref03_digit.f (l0:List Int) (a1:Int):Option (Int):=if a1 < (l0.length:Int) then (if 0≤a1 then (some (rd l0 a1)) else (none)) else (some 0)
theorem sconceref03_digit.calls (A0:Option Addr) (c0:Nat) (l0:List Int) (a1:Int) (r:Int) (w:World) (hr0:Kd.C (Kd.int .u32) w A0 l0.length l0) (hc0:l0.length≤c0) (h:sconceref03_digit.f l0 a1 = some r) :
  Calls Try.prog 53 #[.slice A0 l0.length c0,.int .i64 a1] w fun e w' => e = .returned (.int .u32 r)∧Drawn0 w w':=by
 have HR0:=Aside0.mk hr0
 have HC0:=Aside0.mk hc0
 clear hr0 hc0
 have H:(if a1 < (l0.length:Int) then (if 0≤a1 then (some (rd l0 a1)) else (none)) else (some 0)) = some r:=h
 clear h
 by_cases c3:a1 < (l0.length:Int)
 ·
  rw [if_pos c3] at H
  have c3b0:decide (a1 < (l0.length:Int)) = true:=decide_eq_true c3
  clear c3
  by_cases c4:0≤a1
  ·
   rw [if_pos c4] at H
   have c4b0:decide (0≤a1) = true:=decide_eq_true c4
   clear c4
   obtain rfl:=Option.some.inj H
   have p135:0≤(a1:Int):=of_decide_eq_true vD
   have q135:a1 < (l0.length:Int):=of_decide_eq_true vD
   obtain ⟨ad135,e135,hx135_0⟩:=Kd.at_int HR0.out a1 p135 q135
   cases e135
   replace p135:=eq_true p135
   replace q135:=eq_true q135
   go_enter Try.func53,Try.ntmps53
   go_wp2
   go_ret
   exact ⟨by first | rfl | (simp;done) | (simp [*];done),by repeat (first | exact Drawn0.refl _ | apply Drawn0.step)⟩
  ·
   rw [if_neg c4] at H
   exact absurd H (by simp)
 ·
  rw [if_neg c3] at H
  have c3b0:decide (a1 < (l0.length:Int)) = false:=decide_eq_false c3
  clear c3
  obtain rfl:=Option.some.inj H
  go_enter Try.func53,Try.ntmps53
  go_wp2
  go_ret
  exact ⟨by first | rfl | (simp;done) | (simp [*];done),by repeat (first | exact Drawn0.refl _ | apply Drawn0.step)⟩
mutual
def sconceref03_Add.l0:Nat→List Int→List Int→List Int→Int→Int→Option (List Int)
 | 0,_,_,_,_,_ => none
 | k + 1,x0,x1,x5,x6,x7 => if x7 < (x0.length:Int) then (sconceref03_Add.j1 k x0 x1 x5 x6 x7 true) else (sconceref03_Add.j1 k x0 x1 x5 x6 x7 (decide (x7 < (x1.length:Int))))
def sconceref03_Add.j1:Nat→List Int→List Int→List Int→Int→Int→Bool→Option (List Int)
 | 0,_,_,_,_,_,_ => none
 | k + 1,x0,x1,x5,x6,x7,x17 => if x17 = true then ((sconceref03_digit.f x0 x7).bind fun t136 => ((sconceref03_digit.f x1 x7).bind fun t137 => (if x5.length < 35184372088832 then (sconceref03_Add.l0 k x0 x1 (x5 ++ [(IntKind.u64.wrap (x6 + (IntKind.u64.wrap ((IntKind.u64.wrap (t136)) + (IntKind.u64.wrap (t137)))))) % 4294967296]) ((IntKind.u64.wrap (x6 + (IntKind.u64.wrap ((IntKind.u64.wrap (t136)) + (IntKind.u64.wrap (t137)))))) / 4294967296) (wrap64 (x7 + 1))) else (none)))) else (if x5.length < 35184372088832 then ((sconceref03_trim.f k (x5 ++ [(x6) % 4294967296])).bind fun t144 => (some t144)) else (none))
end
def sconceref03_Add.f (k:Nat) (l0:List Int) (l1:List Int):Option (List Int):=sconceref03_Add.l0 k l0 l1 ([]:List Int) 0 0
theorem sconceref03_Add.calls (k:Nat) (A0:Option Addr) (c0:Nat) (l0:List Int) (A1:Option Addr) (c1:Nat) (l1:List Int) (r:List Int) (w:World) (hr0:Kd.C (Kd.int .u32) w A0 l0.length l0) (hc0:l0.length≤c0) (hr1:Kd.C (Kd.int .u32) w A1 l1.length l1) (hc1:l1.length≤c1) (h:sconceref03_Add.f k l0 l1 = some r) :
  Calls Try.prog 22 #[.slice A0 l0.length c0,.slice A1 l1.length c1] w fun e w' => ∃ v0_:Value,e = .returned (v0_)∧Kd.V (Kd.int .u32) 78 w' w.heap.size (fun k_ => (w.heap.size≤k_)) v0_ r∧Below w.heap.size w w':=by
 have HR0:=Aside0.mk hr0
 have HC0:=Aside0.mk hc0
 clear hr0 hc0
 have HR1:=Aside0.mk hr1
 have HC1:=Aside0.mk hc1
 clear hr1 hc1
 have HB:=Aside0.mk (Below.refl w.heap.size w)
 have H:(sconceref03_Add.l0 k l0 l1 ([]:List Int) 0 0) = some r:=h
 clear h
 have H':=Aside0.mk H
 clear H
 go_enter Try.func22,Try.ntmps22
 go_wp2
 go_loopg [5,6,7] k (fun kq v5 v6 v7 w' => ∃ (x5_1:List Int) (x6_1:Int) (x7_1:Int),v6 = .int .u64 x6_1∧v7 = .int .i64 x7_1∧Aside0 (sconceref03_Add.l0 kq l0 l1 x5_1 x6_1 x7_1 = some r)∧Aside0 (kq≤k)∧Aside0 (Kd.R (Kd.int .u32) 78 w' w.heap.size (fun k_ => (w.heap.size≤k_)) v5 x5_1)∧Aside0 (Below w.heap.size w w'))
 case atStart => exact ⟨(([]:List Int)),(0),(0),(by first | rfl | (simp;done) | (simp [*];done)),(by first | rfl | (simp;done) | (simp [*];done)),H',⟨Nat.le_refl _⟩,⟨by first | exact Kd.R_nil _ _ _ _ _ | exact Kd.N_nil _ _ _ _ _ | exact Kd.V_nil _ _ _ _ _ | exact Kd.Q_nil _ _ _ _ _ | exact Kd.S_nil _ _ _ _ _⟩,⟨by repeat (first | (with_reducible first | exact HB.out | apply below_alloc | apply pw_below_drewN | apply below_drew1) | exact HB.out)⟩⟩
 case round =>
  clear H'
  try clear c1
  try clear c2
  try clear p2
  obtain ⟨x5_1,x6_1,x7_1,rfl,rfl,HA,HK1,HO_5,HB⟩:=hrel
  cases gk with
  | zero => exact absurd HA.out (by simp [sconceref03_Add.l0])
  | succ k1 =>
   have H:=HA.out
   clear HA
   simp only [sconceref03_Add.l0] at H
   have HC3:=Aside0.mk H
   clear H
   go_upto_region 4 with (fail)
   go_cut [17] (fun v17 wc => ∃ (kq:Nat) (x17_2:Bool),v17 = .bool x17_2∧Aside0 (sconceref03_Add.j1 kq l0 l1 x5_1 x6_1 x7_1 x17_2 = some r)∧Aside0 (kq≤k1)∧Aside0 (Kd.R (Kd.int .u32) 78 wc w.heap.size (fun k_ => (w.heap.size≤k_)) u5 x5_1)∧Aside0 (Below w.heap.size w wc))
   case first =>
    have H:=HC3.out
    clear HC3
    by_cases c4:x7_1 < (l0.length:Int)
    ·
     rw [if_pos c4] at H
     have c4b0:decide (x7_1 < (l0.length:Int)) = true:=decide_eq_true c4
     clear c4
     (first | rw [c4b0] | (simp only [i64_w,i32_w];rw [c4b0]) | skip)
     have H':=Aside0.mk H
     clear H
     go_wp2
     go_meet
     case rel => exact ⟨_,(true),(by first | rfl | (simp;done) | (simp [*];done)),H',⟨by have:=HK1.out;first | omega | exact Nat.le_refl _⟩,⟨by (with_reducible repeat (first | apply Kd.R_alloc | apply Kd.R_drewN | apply Kd.R_drew));exact HO_5.out⟩,⟨by repeat (first | (with_reducible first | exact HB.out | apply below_alloc | apply pw_below_drewN | apply below_drew1) | exact HB.out)⟩⟩
    ·
     rw [if_neg c4] at H
     have c4b0:decide (x7_1 < (l0.length:Int)) = false:=decide_eq_false c4
     clear c4
     (first | rw [c4b0] | (simp only [i64_w,i32_w];rw [c4b0]) | skip)
     have H':=Aside0.mk H
     clear H
     go_wp2
     go_meet
     case rel => exact ⟨_,(decide (x7_1 < (l1.length:Int))),(by first | rfl | (simp;done) | (simp [*];done)),H',⟨by have:=HK1.out;first | omega | exact Nat.le_refl _⟩,⟨by (with_reducible repeat (first | apply Kd.R_alloc | apply Kd.R_drewN | apply Kd.R_drew));exact HO_5.out⟩,⟨by repeat (first | (with_reducible first | exact HB.out | apply below_alloc | apply pw_below_drewN | apply below_drew1) | exact HB.out)⟩⟩
   case rest =>
    clear HC3
    try clear c1
    try clear c2
    try clear p2
    try clear c4
    try clear c4b0
    try clear p2
    obtain ⟨kq,x17_2,rfl,HA,HJ2,HO_5,HB⟩:=hcut
    cases kq with
    | zero => exact absurd HA.out (by simp [sconceref03_Add.j1])
    | succ kj2 =>
     have H:=HA.out
     clear HA
     simp only [sconceref03_Add.j1] at H
     by_cases c5:x17_2 = true
     ·
      subst c5
      have H1:((sconceref03_digit.f l0 x7_1).bind fun t136 => ((sconceref03_digit.f l1 x7_1).bind fun t137 => (if x5_1.length < 35184372088832 then (sconceref03_Add.l0 kj2 l0 l1 (x5_1 ++ [(IntKind.u64.wrap (x6_1 + (IntKind.u64.wrap ((IntKind.u64.wrap (t136)) + (IntKind.u64.wrap (t137)))))) % 4294967296]) ((IntKind.u64.wrap (x6_1 + (IntKind.u64.wrap ((IntKind.u64.wrap (t136)) + (IntKind.u64.wrap (t137)))))) / 4294967296) (wrap64 (x7_1 + 1))) else (none)))) = some r:=by rw [if_pos rfl] at H;exact H
      clear H
      have H:=H1
      clear H1
      replace H:=Option.bind_eq_some_iff.mp H
      obtain ⟨t136,A60,H⟩:=H
      replace H:((sconceref03_digit.f l1 x7_1).bind fun t137 => (if x5_1.length < 35184372088832 then (sconceref03_Add.l0 kj2 l0 l1 (x5_1 ++ [(IntKind.u64.wrap (x6_1 + (IntKind.u64.wrap ((IntKind.u64.wrap (t136)) + (IntKind.u64.wrap (t137)))))) % 4294967296]) ((IntKind.u64.wrap (x6_1 + (IntKind.u64.wrap ((IntKind.u64.wrap (t136)) + (IntKind.u64.wrap (t137)))))) / 4294967296) (wrap64 (x7_1 + 1))) else (none))) = some r:=H
      have A6:=Aside0.mk A60
      clear A60
      replace H:=Option.bind_eq_some_iff.mp H
      obtain ⟨t137,A70,H⟩:=H
      replace H:(if x5_1.length < 35184372088832 then (sconceref03_Add.l0 kj2 l0 l1 (x5_1 ++ [(IntKind.u64.wrap (x6_1 + (IntKind.u64.wrap ((IntKind.u64.wrap (t136)) + (IntKind.u64.wrap (t137)))))) % 4294967296]) ((IntKind.u64.wrap (x6_1 + (IntKind.u64.wrap ((IntKind.u64.wrap (t136)) + (IntKind.u64.wrap (t137)))))) / 4294967296) (wrap64 (x7_1 + 1))) else (none)) = some r:=H
      have A7:=Aside0.mk A70
      clear A70
      by_cases c8:x5_1.length < 35184372088832
      ·
       rw [if_pos c8] at H
       have LMc8:=Aside0.mk c8
       clear c8
       obtain ⟨y138,hy138⟩:∃ y_:List Int,y_ = (x5_1 ++ [(IntKind.u64.wrap (x6_1 + (IntKind.u64.wrap ((IntKind.u64.wrap (t136)) + (IntKind.u64.wrap (t137)))))) % 4294967296]):=⟨_,rfl⟩
       replace H:(sconceref03_Add.l0 kj2 l0 l1 y138 ((IntKind.u64.wrap (x6_1 + (IntKind.u64.wrap ((IntKind.u64.wrap (t136)) + (IntKind.u64.wrap (t137)))))) / 4294967296) (wrap64 (x7_1 + 1))) = some r:=by first | (rw [hy138];with_reducible exact H) | (have H2_:=(Option.bind_some _ _).symm.trans H;rw [hy138];with_reducible exact H2_) | (have H2_:=(Option.bind_some _ _).symm.trans H;with_reducible exact H2_) | with_reducible exact H | (rw [hy138];exact H) | exact H
       have Ny138:=Aside0.mk hy138
       clear hy138
       have H':=Aside0.mk H
       clear H
       go_wp2_with (first | ((with_reducible refine gate_callee (f:=53) rfl ?_);refine goesL_ (some 23) rfl rfl Try.func53 (by kernel_rfl) rfl #[.slice A0 l0.length c0,.int .i64 x7_1] rfl vA ?_;(with_reducible refine (sconceref03_digit.calls _ _ l0 x7_1 t136 _ ?side1 ?side2 A6.out).mono ?_);(case side1 => repeat (first | exact (Kd.C_below HR0.out HB.out) | (with_reducible refine Kd.C_alloc ?_ _) | (with_reducible refine Kd.C_drewN ?_ _) | (with_reducible refine Kd.C_drew ?_)));(case side2 => exact HC0.out);rintro e w' ⟨rfl,⟨nd,rfl⟩⟩;refine ⟨_,rfl,?_⟩) | ((with_reducible refine gate_callee (f:=53) rfl ?_);refine goesL_ (some 27) rfl rfl Try.func53 (by kernel_rfl) rfl #[.slice A1 l1.length c1,.int .i64 x7_1] rfl vA ?_;(with_reducible refine (sconceref03_digit.calls _ _ l1 x7_1 t137 _ ?side1 ?side2 A7.out).mono ?_);(case side1 => repeat (first | exact (Kd.C_below HR1.out (vB HB.out)) | (with_reducible refine Kd.C_alloc ?_ _) | (with_reducible refine Kd.C_drewN ?_ _) | (with_reducible refine Kd.C_drew ?_)));(case side2 => exact HC1.out);rintro e w' ⟨rfl,⟨nd,rfl⟩⟩;refine ⟨_,rfl,?_⟩) | ((with_reducible refine gate_builtin (b:=.append) (xs:=#[.tmp 31,.tmp 34]) rfl ?_);(try (refine gate_guard (by rfl) ?_;dsimp only));at_builtin;refine Kd.R_append (Kd.int .u32) (w0:=w) w.heap.size rfl (.tmp 31) (.tmp 34) 31 78 (.int .u32 0) 4 rfl Try.underlying31 info78 rfl (by decide) (by omega) u5 x5_1 ((IntKind.u64.wrap (x6_1 + (IntKind.u64.wrap ((IntKind.u64.wrap (t136)) + (IntKind.u64.wrap (t137)))))) % 4294967296) [.int .u32 ((IntKind.u64.wrap (x6_1 + (IntKind.u64.wrap ((IntKind.u64.wrap (t136)) + (IntKind.u64.wrap (t137)))))) % 4294967296)] (fun k_ => (w.heap.size≤k_)) (fun _ => False) rfl rfl ?aP (fun _ hk => hk.elim) ?aF ?aO ?aB ?aS ?aL ?_;(case aP => exact rfl);(case aB => exact (vB HB.out));(case aF => exact (fun k_ hk => (Nat.le_trans (below_size (vB HB.out)) hk)));(case aO => exact (vR HO_5.out));(case aS => exact (below_size (vB HB.out)));(case aL => have:=LMc8.out;omega);intro v139 w9 ho hb hg hat;rw [← Ny138.out] at ho;have n0_:=Aside0.mk (hb);have n1_:=Aside0.mk (ho);clear HB;clear HO_5;have HB:=n0_;have HO140:=n1_;clear n0_ n1_;clear ho hb hg hat))
       go_roundg kj2
       case measure => have:=HK1.out;have:=HJ2.out;omega
       case rel => exact ⟨(y138),((IntKind.u64.wrap (x6_1 + (IntKind.u64.wrap ((IntKind.u64.wrap (t136)) + (IntKind.u64.wrap (t137)))))) / 4294967296),(wrap64 (x7_1 + 1)),(by first | rfl | (simp;done) | (simp [*];done)),(by first | rfl | (simp;done) | (simp [*];done)),H',⟨by have:=HK1.out;have:=HJ2.out;omega⟩,⟨by (with_reducible repeat (first | apply Kd.R_alloc | apply Kd.R_drewN | apply Kd.R_drew));exact HO140.out⟩,⟨by repeat (first | (with_reducible first | exact HB.out | apply below_alloc | apply pw_below_drewN | apply below_drew1) | exact HB.out)⟩⟩
      ·
       rw [if_neg c8] at H
       exact absurd H (by simp)
     ·
      replace c5:=Bool.eq_false_iff.mpr c5
      subst c5
      have H1:(if x5_1.length < 35184372088832 then ((sconceref03_trim.f kj2 (x5_1 ++ [(x6_1) % 4294967296])).bind fun t144 => (some t144)) else (none)) = some r:=by rw [if_neg (show ¬ (false = true) by decide)] at H;exact H
      clear H
      have H:=H1
      clear H1
      by_cases c10:x5_1.length < 35184372088832
      ·
       rw [if_pos c10] at H
       have LMc10:=Aside0.mk c10
       clear c10
       obtain ⟨y141,hy141⟩:∃ y_:List Int,y_ = (x5_1 ++ [(x6_1) % 4294967296]):=⟨_,rfl⟩
       replace H:((sconceref03_trim.f kj2 y141).bind fun t144 => (some t144)) = some r:=by first | (rw [hy141];with_reducible exact H) | (have H2_:=(Option.bind_some _ _).symm.trans H;rw [hy141];with_reducible exact H2_) | (have H2_:=(Option.bind_some _ _).symm.trans H;with_reducible exact H2_) | with_reducible exact H | (rw [hy141];exact H) | exact H
       have Ny141:=Aside0.mk hy141
       clear hy141
       replace H:=Option.bind_eq_some_iff.mp H
       obtain ⟨t144,A110,H⟩:=H
       replace H:(some t144) = some r:=H
       have A11:=Aside0.mk A110
       clear A110
       obtain rfl:=Option.some.inj H
       go_wp2_with (first | ((with_reducible refine gate_builtin (b:=.append) (xs:=#[.tmp 38,.tmp 41]) rfl ?_);(try (refine gate_guard (by rfl) ?_;dsimp only));at_builtin;refine Kd.R_append (Kd.int .u32) (w0:=w) w.heap.size rfl (.tmp 38) (.tmp 41) 31 78 (.int .u32 0) 4 rfl Try.underlying31 info78 rfl (by decide) (by omega) u5 x5_1 ((x6_1) % 4294967296) [.int .u32 ((x6_1) % 4294967296)] (fun k_ => (w.heap.size≤k_)) (fun _ => False) rfl rfl ?aP (fun _ hk => hk.elim) ?aF ?aO ?aB ?aS ?aL ?_;(case aP => exact rfl);(case aB => exact (vB HB.out));(case aF => exact (fun k_ hk => (Nat.le_trans (below_size (vB HB.out)) hk)));(case aO => exact (vR HO_5.out));(case aS => exact (below_size (vB HB.out)));(case aL => have:=LMc10.out;omega);intro v142 w12 ho hb hg hat;rw [← Ny141.out] at ho;have n0_:=Aside0.mk (hb);have n1_:=Aside0.mk (ho);clear HB;clear HO_5;have HB:=n0_;have HO143:=n1_;clear n0_ n1_;clear ho hb hg hat;obtain ⟨Ao13,co13,eo13⟩:=Kd.R_slice HO143.out;subst eo13) | ((with_reducible refine gate_callee (f:=52) rfl ?_);refine goesL_ (some 43) rfl rfl Try.func52 (by kernel_rfl) rfl #[.slice Ao13 y141.length co13] rfl vA ?_;(with_reducible refine (sconceref03_trim.calls kj2 (fun k_ => some k_ = (.slice Ao13 y141.length co13:Value).ownBlock) _ _ y141 t144 _ ?side1 A11.out).mono ?_);(case side1 => exact Kd.R_V (Kd.R_tight rfl (HO143.out)));rintro e w14 ⟨v145,rfl,ho0,hb⟩;refine ⟨_,rfl,?_⟩;have n0_:=Aside0.mk (Kd.R_below (vR HO143.out) hb);have n1_:=Aside0.mk (Kd.V_lower (Kd.V_mono (ok':=fun k_ => (w.heap.size≤k_)) ho0 (fun k_ hk_ => Or.elim hk_ (fun hs_ => ((HO143.out).1 k_ hs_.symm)) (fun hn_ => (Nat.le_trans (below_size (vB HB.out)) hn_)))) (below_size (vB HB.out)));have n2_:=Aside0.mk (below_step (vB HB.out) hb);clear HO143;clear HB;have HO143:=n0_;have HO146:=n1_;have HB:=n2_;clear n0_ n1_ n2_;(try clear hb);(try clear hb2);(try clear hk);(try clear hi);(try clear ho0)))
       go_ret
       exact ⟨_,by first | rfl | (simp [errW_none,errW_some] <;> rfl) | (simp [*,errW_none,errW_some] <;> rfl),by (with_reducible repeat (first | apply Kd.V_alloc | apply Kd.V_drewN | apply Kd.V_drew));exact HO146.out,by repeat (first | (with_reducible first | exact HB.out | apply below_alloc | apply pw_below_drewN | apply below_drew1) | exact HB.out)⟩
      ·
       rw [if_neg c10] at H
       exact absurd H (by simp)
end Go.Proofs.Ytalfniohakahlaa.X
