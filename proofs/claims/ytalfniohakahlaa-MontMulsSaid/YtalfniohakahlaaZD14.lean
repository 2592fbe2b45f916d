/- Texts of the walk and of the plain laws, laid together by a program: X9, Sp1. -/
import Derived.Test.YtalfniohakahlaaZD0
import Derived.Test.YtalfniohakahlaaZD1
import Derived.Test.YtalfniohakahlaaZD2
import Derived.Test.YtalfniohakahlaaZD5
import Derived.Test.YtalfniohakahlaaZD4
import Derived.Test.YtalfniohakahlaaZD6
import Derived.Test.YtalfniohakahlaaZD3
import Derived.Test.YtalfniohakahlaaZD8
import Derived.Test.YtalfniohakahlaaZD10
import Derived.Test.YtalfniohakahlaaZD13
set_option maxHeartbeats 8000000
set_option maxRecDepth 100000
section
namespace Go.Proofs.Ytalfniohakahlaa.X
open Go.RowKit Go.Proofs.YtalfniohakahlaaW.PrintWords Go.Proofs.YtalfniohakahlaaW.PrintLast Go.Proofs.YtalfniohakahlaaW.PrintMore
attribute [local go_sem] max2_int min2_int max_two min_two max_three min_three max_four min_four
set_option linter.unusedVariables false
set_option linter.unusedSimpArgs false
def nat_Compare.l0:Nat→List Int→List Int→Int→Option (Int)
 | 0,_,_,_ => none
 | k + 1,x0,x1,x5 => if x5 ≥ 0 then ((nat_at.f x0 x5).bind fun t221 => ((nat_at.f x1 x5).bind fun t222 => (if t221 < t222 then (some (-1)) else (if t221 > t222 then (some 1) else (nat_Compare.l0 k x0 x1 (wrap64 (x5 - 1))))))) else (some 0)
def nat_Compare.f (k:Nat) (l0:List Int) (l1:List Int):Option (Int):=nat_Compare.l0 k l0 l1 (wrap64 ((mx (l0.length:Int) (l1.length:Int)) - 1))
theorem nat_Compare.calls (k:Nat) (A0:Option Addr) (c0:Nat) (l0:List Int) (A1:Option Addr) (c1:Nat) (l1:List Int) (r:Int) (w:World) (hr0:Kd.C (Kd.int .u64) w A0 l0.length l0) (hc0:l0.length≤c0) (hr1:Kd.C (Kd.int .u64) w A1 l1.length l1) (hc1:l1.length≤c1) (h:nat_Compare.f k l0 l1 = some r) :
  Calls Try.prog 108 #[.slice A0 l0.length c0,.slice A1 l1.length c1] w fun e w' => e = .returned (.int .i64 r)∧Below w.heap.size w w':=by
 have HR0:=Aside0.mk hr0
 have HC0:=Aside0.mk hc0
 clear hr0 hc0
 have HR1:=Aside0.mk hr1
 have HC1:=Aside0.mk hc1
 clear hr1 hc1
 have HB:=Aside0.mk (Below.refl w.heap.size w)
 have H:(nat_Compare.l0 k l0 l1 (wrap64 ((mx (l0.length:Int) (l1.length:Int)) - 1))) = some r:=h
 clear h
 obtain ⟨ji3,hji3⟩:∃ j_:Int,(mx (l0.length:Int) (l1.length:Int)) = j_:=⟨_,rfl⟩
 replace H:(nat_Compare.l0 k l0 l1 (wrap64 ((ji3) - 1))) = some r:=by first | (rw [hji3] at H;exact H) | (simp only [hji3] at H ⊢;exact H)
 (try (have hji3l:0≤ji3:=by (rw [← hji3];unfold mx;(repeat' split) <;> omega)))
 (try (have hji3m:0≤ji3:=by omega))
 have hji3N_:(if l0.length < l1.length then (l1.length:Int) else (l0.length:Int)) = ji3:=by rw [← hji3];unfold mx;(repeat' split) <;> omega
 have hji3_:(if (l0.length:Int) < (l1.length:Int) then (l1.length:Int) else (l0.length:Int)) = ji3:=hji3
 have H':=Aside0.mk H
 clear H
 go_enter Try.func108,Try.ntmps108
 go_wp2
 go_loopg [5] k (fun kq v5 w' => ∃ (x5_1:Int),v5 = .int .i64 x5_1∧Aside0 (nat_Compare.l0 kq l0 l1 x5_1 = some r)∧Aside0 (kq≤k)∧Aside0 (Below w.heap.size w w'))
 case atStart => exact ⟨(wrap64 ((ji3) - 1)),(by first | rfl | (simp;done) | (simp only [← hji3] <;> (first | rfl | simp)) | (simp [*];done)),H',⟨Nat.le_refl _⟩,⟨by repeat (first | (with_reducible first | exact HB.out | apply below_alloc | apply pw_below_drewN | apply below_drew1) | exact HB.out)⟩⟩
 case round =>
  clear H'
  try clear c1
  try clear p2
  obtain ⟨x5_1,rfl,HA,HK1,HB⟩:=hrel
  cases gk with
  | zero => exact absurd HA.out (by simp [nat_Compare.l0])
  | succ k1 =>
   have H:=HA.out
   clear HA
   simp only [nat_Compare.l0] at H
   by_cases c4:x5_1 ≥ 0
   ·
    rw [if_pos c4] at H
    have c4b0:decide (0≤x5_1) = true:=decide_eq_true c4
    clear c4
    replace H:=Option.bind_eq_some_iff.mp H
    obtain ⟨t221,A50,H⟩:=H
    replace H:((nat_at.f l1 x5_1).bind fun t222 => (if t221 < t222 then (some (-1)) else (if t221 > t222 then (some 1) else (nat_Compare.l0 k1 l0 l1 (wrap64 (x5_1 - 1)))))) = some r:=H
    have A5:=Aside0.mk A50
    clear A50
    replace H:=Option.bind_eq_some_iff.mp H
    obtain ⟨t222,A60,H⟩:=H
    replace H:(if t221 < t222 then (some (-1)) else (if t221 > t222 then (some 1) else (nat_Compare.l0 k1 l0 l1 (wrap64 (x5_1 - 1))))) = some r:=H
    have A6:=Aside0.mk A60
    clear A60
    by_cases c7:t221 < t222
    ·
     rw [if_pos c7] at H
     have c7b0:decide (t221 < t222) = true:=decide_eq_true c7
     clear c7
     obtain rfl:=Option.some.inj H
     go_wp2_with (first | ((with_reducible refine gate_callee (f:=116) rfl ?_);refine goesL_ (some 20) rfl rfl Try.func116 (by kernel_rfl) rfl #[.slice A0 l0.length c0,.int .i64 x5_1] rfl vA ?_;(with_reducible refine (nat_at.calls _ _ l0 x5_1 t221 _ ?side1 ?side2 A5.out).mono ?_);(case side1 => repeat (first | exact (Kd.C_below HR0.out HB.out) | (with_reducible refine Kd.C_alloc ?_ _) | (with_reducible refine Kd.C_drewN ?_ _) | (with_reducible refine Kd.C_drew ?_)));(case side2 => exact HC0.out);rintro e w' ⟨rfl,⟨nd,rfl⟩⟩;refine ⟨_,rfl,?_⟩) | ((with_reducible refine gate_callee (f:=116) rfl ?_);refine goesL_ (some 23) rfl rfl Try.func116 (by kernel_rfl) rfl #[.slice A1 l1.length c1,.int .i64 x5_1] rfl vA ?_;(with_reducible refine (nat_at.calls _ _ l1 x5_1 t222 _ ?side1 ?side2 A6.out).mono ?_);(case side1 => repeat (first | exact (Kd.C_below HR1.out (vB HB.out)) | (with_reducible refine Kd.C_alloc ?_ _) | (with_reducible refine Kd.C_drewN ?_ _) | (with_reducible refine Kd.C_drew ?_)));(case side2 => exact HC1.out);rintro e w' ⟨rfl,⟨nd,rfl⟩⟩;refine ⟨_,rfl,?_⟩))
     go_ret
     exact ⟨by first | rfl | (simp [errW_none,errW_some] <;> rfl) | (simp only [← hji3];first | rfl | (simp [errW_none,errW_some] <;> rfl)) | (simp [*,errW_none,errW_some] <;> rfl),by repeat (first | (with_reducible first | exact HB.out | apply below_alloc | apply pw_below_drewN | apply below_drew1) | exact HB.out)⟩
    ·
     rw [if_neg c7] at H
     have c7b0:decide (t221 < t222) = false:=decide_eq_false c7
     clear c7
     by_cases c8:t221 > t222
     ·
      rw [if_pos c8] at H
      have c8b0:decide (t222 < t221) = true:=decide_eq_true c8
      clear c8
      obtain rfl:=Option.some.inj H
      go_wp2_with (first | ((with_reducible refine gate_callee (f:=116) rfl ?_);refine goesL_ (some 20) rfl rfl Try.func116 (by kernel_rfl) rfl #[.slice A0 l0.length c0,.int .i64 x5_1] rfl vA ?_;(with_reducible refine (nat_at.calls _ _ l0 x5_1 t221 _ ?side1 ?side2 A5.out).mono ?_);(case side1 => repeat (first | exact (Kd.C_below HR0.out HB.out) | (with_reducible refine Kd.C_alloc ?_ _) | (with_reducible refine Kd.C_drewN ?_ _) | (with_reducible refine Kd.C_drew ?_)));(case side2 => exact HC0.out);rintro e w' ⟨rfl,⟨nd,rfl⟩⟩;refine ⟨_,rfl,?_⟩) | ((with_reducible refine gate_callee (f:=116) rfl ?_);refine goesL_ (some 23) rfl rfl Try.func116 (by kernel_rfl) rfl #[.slice A1 l1.length c1,.int .i64 x5_1] rfl vA ?_;(with_reducible refine (nat_at.calls _ _ l1 x5_1 t222 _ ?side1 ?side2 A6.out).mono ?_);(case side1 => repeat (first | exact (Kd.C_below HR1.out (vB HB.out)) | (with_reducible refine Kd.C_alloc ?_ _) | (with_reducible refine Kd.C_drewN ?_ _) | (with_reducible refine Kd.C_drew ?_)));(case side2 => exact HC1.out);rintro e w' ⟨rfl,⟨nd,rfl⟩⟩;refine ⟨_,rfl,?_⟩))
      go_ret
      exact ⟨by first | rfl | (simp [errW_none,errW_some] <;> rfl) | (simp only [← hji3];first | rfl | (simp [errW_none,errW_some] <;> rfl)) | (simp [*,errW_none,errW_some] <;> rfl),by repeat (first | (with_reducible first | exact HB.out | apply below_alloc | apply pw_below_drewN | apply below_drew1) | exact HB.out)⟩
     ·
      rw [if_neg c8] at H
      have c8b0:decide (t222 < t221) = false:=decide_eq_false c8
      clear c8
      have H':=Aside0.mk H
      clear H
      go_wp2_with (first | ((with_reducible refine gate_callee (f:=116) rfl ?_);refine goesL_ (some 20) rfl rfl Try.func116 (by kernel_rfl) rfl #[.slice A0 l0.length c0,.int .i64 x5_1] rfl vA ?_;(with_reducible refine (nat_at.calls _ _ l0 x5_1 t221 _ ?side1 ?side2 A5.out).mono ?_);(case side1 => repeat (first | exact (Kd.C_below HR0.out HB.out) | (with_reducible refine Kd.C_alloc ?_ _) | (with_reducible refine Kd.C_drewN ?_ _) | (with_reducible refine Kd.C_drew ?_)));(case side2 => exact HC0.out);rintro e w' ⟨rfl,⟨nd,rfl⟩⟩;refine ⟨_,rfl,?_⟩) | ((with_reducible refine gate_callee (f:=116) rfl ?_);refine goesL_ (some 23) rfl rfl Try.func116 (by kernel_rfl) rfl #[.slice A1 l1.length c1,.int .i64 x5_1] rfl vA ?_;(with_reducible refine (nat_at.calls _ _ l1 x5_1 t222 _ ?side1 ?side2 A6.out).mono ?_);(case side1 => repeat (first | exact (Kd.C_below HR1.out (vB HB.out)) | (with_reducible refine Kd.C_alloc ?_ _) | (with_reducible refine Kd.C_drewN ?_ _) | (with_reducible refine Kd.C_drew ?_)));(case side2 => exact HC1.out);rintro e w' ⟨rfl,⟨nd,rfl⟩⟩;refine ⟨_,rfl,?_⟩))
      go_roundg k1
      case measure => have:=HK1.out;omega
      case rel => exact ⟨(wrap64 (x5_1 - 1)),(by first | rfl | (simp;done) | (simp [*];done)),H',⟨by have:=HK1.out;omega⟩,⟨by repeat (first | (with_reducible first | exact HB.out | apply below_alloc | apply pw_below_drewN | apply below_drew1) | exact HB.out)⟩⟩
   ·
    rw [if_neg c4] at H
    have c4b0:decide (0≤x5_1) = false:=decide_eq_false c4
    clear c4
    obtain rfl:=Option.some.inj H
    go_wp2
    go_ret
    exact ⟨by first | rfl | (simp [errW_none,errW_some] <;> rfl) | (simp only [← hji3];first | rfl | (simp [errW_none,errW_some] <;> rfl)) | (simp [*,errW_none,errW_some] <;> rfl),by repeat (first | (with_reducible first | exact HB.out | apply below_alloc | apply pw_below_drewN | apply below_drew1) | exact HB.out)⟩
def word_Add.f (a0 a1 a2:Int):Option (Int × Int) :=
 if (0≤a0∧0≤a1)∧(0≤a2∧a2 < 18446744073709551616) then some ((a0 + a1 + a2 % 2) % 18446744073709551616,(a0 + a1 + a2 % 2) / 18446744073709551616) else none
theorem word_Add.calls (a0 a1 a2 r1 r2:Int) (w:World) (h:word_Add.f a0 a1 a2 = some (r1,r2)) :
  Calls Try.prog 109 #[.int .u64 a0,.int .u64 a1,.int .u64 a2] w fun e w' => e = .returned (.tuple #[.int .u64 r1,.int .u64 r2])∧Drawn0 w w':=by
 unfold word_Add.f at h
 split at h
 ·
  rename_i hc
  obtain ⟨⟨h0,h1⟩,h2,h3⟩:=hc
  simp only [Option.some.injEq,Prod.mk.injEq] at h
  obtain ⟨rfl,rfl⟩:=h
  have hb:=and_one_u64 a2 h2 (by omega)
  have hm0:0≤a2 % 2:=by omega
  have hm1:a2 % 2≤1:=by omega
  have HB:=Lib.hid hb
  clear hb
  go_enter Try.func109,Try.ntmps109
  go_wp2_with (first | (rw [HB.out];simp only [w_add64 a0 a1 _ h0 h1 hm0 hm1]) | simp only [w_add64 a0 a1 _ h0 h1 hm0 hm1])
  go_ret2
  exact ⟨rfl,Drawn0.refl _⟩
 ·
  exact absurd h (by simp)
def sconceref03_Sub.l0:Nat→List Int→List Int→List Int→Int→Int→Int→Option (List Int)
 | 0,_,_,_,_,_,_ => none
 | k + 1,x0,x1,x5,x6,x9,x10 => if x10 < x9 then (if 0≤x10 then (if x10 < (x0.length:Int) then ((sconceref03_digit.f x1 x10).bind fun t224 => (if x5.length < 35184372088832 then (sconceref03_Sub.l0 k x0 x1 (x5 ++ [(wrap64 (x6 + (wrap64 ((wrap64 (rd x0 x10)) - (wrap64 (t224)))))) % 4294967296]) ((wrap64 (x6 + (wrap64 ((wrap64 (rd x0 x10)) - (wrap64 (t224)))))) / 4294967296) x9 (wrap64 (x10 + 1))) else (none))) else (none)) else (none)) else ((sconceref03_trim.f k x5).bind fun t228 => (some t228))
def sconceref03_Sub.f (k:Nat) (l0:List Int) (l1:List Int):Option (List Int):=sconceref03_Sub.l0 k l0 l1 ([]:List Int) 0 (l0.length:Int) 0
theorem sconceref03_Sub.calls (k:Nat) (A0:Option Addr) (c0:Nat) (l0:List Int) (A1:Option Addr) (c1:Nat) (l1:List Int) (r:List Int) (w:World) (hr0:Kd.C (Kd.int .u32) w A0 l0.length l0) (hc0:l0.length≤c0) (hr1:Kd.C (Kd.int .u32) w A1 l1.length l1) (hc1:l1.length≤c1) (h:sconceref03_Sub.f k l0 l1 = some r) :
  Calls Try.prog 119 #[.slice A0 l0.length c0,.slice A1 l1.length c1] w fun e w' => ∃ v0_:Value,e = .returned (v0_)∧Kd.V (Kd.int .u32) 78 w' w.heap.size (fun k_ => (w.heap.size≤k_)) v0_ r∧Below w.heap.size w w':=by
 have HR0:=Aside0.mk hr0
 have HC0:=Aside0.mk hc0
 clear hr0 hc0
 have HR1:=Aside0.mk hr1
 have HC1:=Aside0.mk hc1
 clear hr1 hc1
 have HB:=Aside0.mk (Below.refl w.heap.size w)
 have H:(sconceref03_Sub.l0 k l0 l1 ([]:List Int) 0 (l0.length:Int) 0) = some r:=h
 clear h
 have H':=Aside0.mk H
 clear H
 go_enter Try.func119,Try.ntmps119
 go_wp2
 repeat (go_quiet (fail);try go_wp2)
 go_loopg [5,6,10] k (fun kq v5 v6 v10 w' => ∃ (x5_1:List Int) (x6_1:Int) (x10_1:Int),v6 = .int .i64 x6_1∧v10 = .int .i64 x10_1∧Aside0 (sconceref03_Sub.l0 kq l0 l1 x5_1 x6_1 (l0.length:Int) x10_1 = some r)∧Aside0 (kq≤k)∧Aside0 (Kd.R (Kd.int .u32) 78 w' w.heap.size (fun k_ => (w.heap.size≤k_)) v5 x5_1)∧Aside0 (Below w.heap.size w w'))
 case atStart => exact ⟨(([]:List Int)),(0),(0),(by first | rfl | (simp;done) | (simp [*];done)),(by first | rfl | (simp;done) | (simp [*];done)),H',⟨Nat.le_refl _⟩,⟨by first | exact Kd.R_nil _ _ _ _ _ | exact Kd.N_nil _ _ _ _ _ | exact Kd.V_nil _ _ _ _ _ | exact Kd.Q_nil _ _ _ _ _ | exact Kd.S_nil _ _ _ _ _⟩,⟨by repeat (first | (with_reducible first | exact HB.out | apply below_alloc | apply pw_below_drewN | apply below_drew1) | exact HB.out)⟩⟩
 case round =>
  clear H'
  try clear c1
  try clear p2
  obtain ⟨x5_1,x6_1,x10_1,rfl,rfl,HA,HK1,HO_5,HB⟩:=hrel
  cases gk with
  | zero => exact absurd HA.out (by simp [sconceref03_Sub.l0])
  | succ k1 =>
   have H:=HA.out
   clear HA
   simp only [sconceref03_Sub.l0] at H
   by_cases c3:x10_1 < (l0.length:Int)
   ·
    rw [if_pos c3] at H
    have c3b0:decide (x10_1 < (l0.length:Int)) = true:=decide_eq_true c3
    clear c3
    by_cases c4:0≤x10_1
    ·
     rw [if_pos c4] at H
     have c4b0:decide (0≤x10_1) = true:=decide_eq_true c4
     clear c4
     by_cases c5:x10_1 < (l0.length:Int)
     ·
      rw [if_pos c5] at H
      have c5b0:decide (x10_1 < (l0.length:Int)) = true:=decide_eq_true c5
      clear c5
      replace H:=Option.bind_eq_some_iff.mp H
      obtain ⟨t224,A60,H⟩:=H
      replace H:(if x5_1.length < 35184372088832 then (sconceref03_Sub.l0 k1 l0 l1 (x5_1 ++ [(wrap64 (x6_1 + (wrap64 ((wrap64 (rd l0 x10_1)) - (wrap64 (t224)))))) % 4294967296]) ((wrap64 (x6_1 + (wrap64 ((wrap64 (rd l0 x10_1)) - (wrap64 (t224)))))) / 4294967296) (l0.length:Int) (wrap64 (x10_1 + 1))) else (none)) = some r:=H
      have A6:=Aside0.mk A60
      clear A60
      by_cases c7:x5_1.length < 35184372088832
      ·
       rw [if_pos c7] at H
       have LMc7:=Aside0.mk c7
       clear c7
       obtain ⟨y225,hy225⟩:∃ y_:List Int,y_ = (x5_1 ++ [(wrap64 (x6_1 + (wrap64 ((wrap64 (rd l0 x10_1)) - (wrap64 (t224)))))) % 4294967296]):=⟨_,rfl⟩
       replace H:(sconceref03_Sub.l0 k1 l0 l1 y225 ((wrap64 (x6_1 + (wrap64 ((wrap64 (rd l0 x10_1)) - (wrap64 (t224)))))) / 4294967296) (l0.length:Int) (wrap64 (x10_1 + 1))) = some r:=by first | (rw [hy225];with_reducible exact H) | (have H2_:=(Option.bind_some _ _).symm.trans H;rw [hy225];with_reducible exact H2_) | (have H2_:=(Option.bind_some _ _).symm.trans H;with_reducible exact H2_) | with_reducible exact H | (rw [hy225];exact H) | exact H
       have Ny225:=Aside0.mk hy225
       clear hy225
       have H':=Aside0.mk H
       clear H
       have p223:0≤(x10_1:Int):=of_decide_eq_true vD
       have q223:x10_1 < (l0.length:Int):=of_decide_eq_true vD
       obtain ⟨ad223,e223,hx223_0⟩:=Kd.at_int HR0.out x10_1 p223 q223
       cases e223
       replace hx223_0:=(HB.out.cell (World.block_lt_of_cell? w _ hx223_0)).trans hx223_0
       replace p223:=eq_true p223
       replace q223:=eq_true q223
       go_wp2_with (first | (go_at_call 53;(with_reducible refine (sconceref03_digit.calls _ _ l1 x10_1 t224 _ ?side1 ?side2 A6.out).mono ?_);(case side1 => repeat (first | exact (Kd.C_below HR1.out HB.out) | (with_reducible refine Kd.C_alloc ?_ _) | (with_reducible refine Kd.C_drewN ?_ _) | (with_reducible refine Kd.C_drew ?_)));(case side2 => exact HC1.out);rintro e w' ⟨rfl,⟨nd,rfl⟩⟩;(try first | exact ⟨rfl,_,World.drewN_drewN _ _ _⟩ | exact ⟨rfl,_,Eq.trans (World.drewN_drewN _ _ _) (congrArg (World.drewN _) (Nat.add_assoc _ _ _))⟩)) | ((with_reducible refine gate_builtin (b:=.append) (xs:=#[.tmp 25,.tmp 28]) rfl ?_);at_builtin;refine Kd.R_append (Kd.int .u32) (w0:=w) w.heap.size rfl (.tmp 25) (.tmp 28) 31 78 (.int .u32 0) 4 rfl Try.underlying31 info78 rfl (by decide) (by omega) u5 x5_1 ((wrap64 (x6_1 + (wrap64 ((wrap64 (rd l0 x10_1)) - (wrap64 (t224)))))) % 4294967296) [.int .u32 ((wrap64 (x6_1 + (wrap64 ((wrap64 (rd l0 x10_1)) - (wrap64 (t224)))))) % 4294967296)] (fun k_ => (w.heap.size≤k_)) (fun _ => False) rfl rfl ?aP (fun _ hk => hk.elim) ?aF ?aO ?aB ?aS ?aL ?_;(case aP => exact rfl);(case aB => exact (vB HB.out));(case aF => exact (fun k_ hk => (Nat.le_trans (below_size (vB HB.out)) hk)));(case aO => exact (vR HO_5.out));(case aS => exact (below_size (vB HB.out)));(case aL => have:=LMc7.out;omega);intro v226 w8 ho hb hg hat;rw [← Ny225.out] at ho;have n0_:=Aside0.mk (hb);have n1_:=Aside0.mk (ho);clear HB;clear HO_5;have HB:=n0_;have HO227:=n1_;clear n0_ n1_;clear ho hb hg hat))
       repeat (go_quiet (first | (go_at_call 53;(with_reducible refine (sconceref03_digit.calls _ _ l1 x10_1 t224 _ ?side1 ?side2 A6.out).mono ?_);(case side1 => repeat (first | exact (Kd.C_below HR1.out HB.out) | (with_reducible refine Kd.C_alloc ?_ _) | (with_reducible refine Kd.C_drewN ?_ _) | (with_reducible refine Kd.C_drew ?_)));(case side2 => exact HC1.out);rintro e w' ⟨rfl,⟨nd,rfl⟩⟩;(try first | exact ⟨rfl,_,World.drewN_drewN _ _ _⟩ | exact ⟨rfl,_,Eq.trans (World.drewN_drewN _ _ _) (congrArg (World.drewN _) (Nat.add_assoc _ _ _))⟩)) | ((with_reducible refine gate_builtin (b:=.append) (xs:=#[.tmp 25,.tmp 28]) rfl ?_);at_builtin;refine Kd.R_append (Kd.int .u32) (w0:=w) w.heap.size rfl (.tmp 25) (.tmp 28) 31 78 (.int .u32 0) 4 rfl Try.underlying31 info78 rfl (by decide) (by omega) u5 x5_1 ((wrap64 (x6_1 + (wrap64 ((wrap64 (rd l0 x10_1)) - (wrap64 (t224)))))) % 4294967296) [.int .u32 ((wrap64 (x6_1 + (wrap64 ((wrap64 (rd l0 x10_1)) - (wrap64 (t224)))))) % 4294967296)] (fun k_ => (w.heap.size≤k_)) (fun _ => False) rfl rfl ?aP (fun _ hk => hk.elim) ?aF ?aO ?aB ?aS ?aL ?_;(case aP => exact rfl);(case aB => exact (vB HB.out));(case aF => exact (fun k_ hk => (Nat.le_trans (below_size (vB HB.out)) hk)));(case aO => exact (vR HO_5.out));(case aS => exact (below_size (vB HB.out)));(case aL => have:=LMc7.out;omega);intro v226 w8 ho hb hg hat;rw [← Ny225.out] at ho;have n0_:=Aside0.mk (hb);have n1_:=Aside0.mk (ho);clear HB;clear HO_5;have HB:=n0_;have HO227:=n1_;clear n0_ n1_;clear ho hb hg hat));try go_wp2_with (first | (go_at_call 53;(with_reducible refine (sconceref03_digit.calls _ _ l1 x10_1 t224 _ ?side1 ?side2 A6.out).mono ?_);(case side1 => repeat (first | exact (Kd.C_below HR1.out HB.out) | (with_reducible refine Kd.C_alloc ?_ _) | (with_reducible refine Kd.C_drewN ?_ _) | (with_reducible refine Kd.C_drew ?_)));(case side2 => exact HC1.out);rintro e w' ⟨rfl,⟨nd,rfl⟩⟩;(try first | exact ⟨rfl,_,World.drewN_drewN _ _ _⟩ | exact ⟨rfl,_,Eq.trans (World.drewN_drewN _ _ _) (congrArg (World.drewN _) (Nat.add_assoc _ _ _))⟩)) | ((with_reducible refine gate_builtin (b:=.append) (xs:=#[.tmp 25,.tmp 28]) rfl ?_);at_builtin;refine Kd.R_append (Kd.int .u32) (w0:=w) w.heap.size rfl (.tmp 25) (.tmp 28) 31 78 (.int .u32 0) 4 rfl Try.underlying31 info78 rfl (by decide) (by omega) u5 x5_1 ((wrap64 (x6_1 + (wrap64 ((wrap64 (rd l0 x10_1)) - (wrap64 (t224)))))) % 4294967296) [.int .u32 ((wrap64 (x6_1 + (wrap64 ((wrap64 (rd l0 x10_1)) - (wrap64 (t224)))))) % 4294967296)] (fun k_ => (w.heap.size≤k_)) (fun _ => False) rfl rfl ?aP (fun _ hk => hk.elim) ?aF ?aO ?aB ?aS ?aL ?_;(case aP => exact rfl);(case aB => exact (vB HB.out));(case aF => exact (fun k_ hk => (Nat.le_trans (below_size (vB HB.out)) hk)));(case aO => exact (vR HO_5.out));(case aS => exact (below_size (vB HB.out)));(case aL => have:=LMc7.out;omega);intro v226 w8 ho hb hg hat;rw [← Ny225.out] at ho;have n0_:=Aside0.mk (hb);have n1_:=Aside0.mk (ho);clear HB;clear HO_5;have HB:=n0_;have HO227:=n1_;clear n0_ n1_;clear ho hb hg hat)))
       go_roundg k1
       case measure => have:=HK1.out;omega
       case rel => exact ⟨(y225),((wrap64 (x6_1 + (wrap64 ((wrap64 (rd l0 x10_1)) - (wrap64 (t224)))))) / 4294967296),(wrap64 (x10_1 + 1)),(by first | rfl | (simp;done) | (simp [*];done)),(by first | rfl | (simp;done) | (simp [*];done)),H',⟨by have:=HK1.out;omega⟩,⟨by (with_reducible repeat (first | apply Kd.R_alloc | apply Kd.R_drewN | apply Kd.R_drew));exact HO227.out⟩,⟨by repeat (first | (with_reducible first | exact HB.out | apply below_alloc | apply pw_below_drewN | apply below_drew1) | exact HB.out)⟩⟩
      ·
       rw [if_neg c7] at H
       exact absurd H (by simp)
     ·
      rw [if_neg c5] at H
      exact absurd H (by simp)
    ·
     rw [if_neg c4] at H
     exact absurd H (by simp)
   ·
    rw [if_neg c3] at H
    have c3b0:decide (x10_1 < (l0.length:Int)) = false:=decide_eq_false c3
    clear c3
    replace H:=Option.bind_eq_some_iff.mp H
    obtain ⟨t228,A90,H⟩:=H
    replace H:(some t228) = some r:=H
    have A9:=Aside0.mk A90
    clear A90
    obtain rfl:=Option.some.inj H
    obtain ⟨Ao10,co10,eo10⟩:=Kd.R_slice HO_5.out
    subst eo10
    go_wp2_with (first | (go_at_call 52;(with_reducible refine (sconceref03_trim.calls k1 (fun k_ => some k_ = (.slice Ao10 x5_1.length co10:Value).ownBlock) _ _ x5_1 t228 _ ?side1 A9.out).mono ?_);(case side1 => exact Kd.R_V (Kd.R_tight rfl (HO_5.out)));rintro e w11 ⟨v229,rfl,ho0,hb⟩;have n0_:=Aside0.mk (Kd.R_below (vR HO_5.out) hb);have n1_:=Aside0.mk (Kd.V_lower (Kd.V_mono (ok':=fun k_ => (w.heap.size≤k_)) ho0 (fun k_ hk_ => Or.elim hk_ (fun hs_ => ((HO_5.out).1 k_ hs_.symm)) (fun hn_ => (Nat.le_trans (below_size (vB HB.out)) hn_)))) (below_size (vB HB.out)));have n2_:=Aside0.mk (below_step (vB HB.out) hb);clear HO_5;clear HB;have HO_5:=n0_;have HO230:=n1_;have HB:=n2_;clear n0_ n1_ n2_;(try clear hb);(try clear hb2);(try clear hk);(try clear hi);(try clear ho0)))
    repeat (go_quiet (first | (go_at_call 52;(with_reducible refine (sconceref03_trim.calls k1 (fun k_ => some k_ = (.slice Ao10 x5_1.length co10:Value).ownBlock) _ _ x5_1 t228 _ ?side1 A9.out).mono ?_);(case side1 => exact Kd.R_V (Kd.R_tight rfl (HO_5.out)));rintro e w11 ⟨v229,rfl,ho0,hb⟩;have n0_:=Aside0.mk (Kd.R_below (vR HO_5.out) hb);have n1_:=Aside0.mk (Kd.V_lower (Kd.V_mono (ok':=fun k_ => (w.heap.size≤k_)) ho0 (fun k_ hk_ => Or.elim hk_ (fun hs_ => ((HO_5.out).1 k_ hs_.symm)) (fun hn_ => (Nat.le_trans (below_size (vB HB.out)) hn_)))) (below_size (vB HB.out)));have n2_:=Aside0.mk (below_step (vB HB.out) hb);clear HO_5;clear HB;have HO_5:=n0_;have HO230:=n1_;have HB:=n2_;clear n0_ n1_ n2_;(try clear hb);(try clear hb2);(try clear hk);(try clear hi);(try clear ho0)));try go_wp2_with (first | (go_at_call 52;(with_reducible refine (sconceref03_trim.calls k1 (fun k_ => some k_ = (.slice Ao10 x5_1.length co10:Value).ownBlock) _ _ x5_1 t228 _ ?side1 A9.out).mono ?_);(case side1 => exact Kd.R_V (Kd.R_tight rfl (HO_5.out)));rintro e w11 ⟨v229,rfl,ho0,hb⟩;have n0_:=Aside0.mk (Kd.R_below (vR HO_5.out) hb);have n1_:=Aside0.mk (Kd.V_lower (Kd.V_mono (ok':=fun k_ => (w.heap.size≤k_)) ho0 (fun k_ hk_ => Or.elim hk_ (fun hs_ => ((HO_5.out).1 k_ hs_.symm)) (fun hn_ => (Nat.le_trans (below_size (vB HB.out)) hn_)))) (below_size (vB HB.out)));have n2_:=Aside0.mk (below_step (vB HB.out) hb);clear HO_5;clear HB;have HO_5:=n0_;have HO230:=n1_;have HB:=n2_;clear n0_ n1_ n2_;(try clear hb);(try clear hb2);(try clear hk);(try clear hi);(try clear ho0))))
    go_ret
    exact ⟨_,by first | rfl | (simp [errW_none,errW_some] <;> rfl) | (simp [*,errW_none,errW_some] <;> rfl),by (with_reducible repeat (first | apply Kd.V_alloc | apply Kd.V_drewN | apply Kd.V_drew));exact HO230.out,by repeat (first | (with_reducible first | exact HB.out | apply below_alloc | apply pw_below_drewN | apply below_drew1) | exact HB.out)⟩
end Go.Proofs.Ytalfniohakahlaa.X
end
section
namespace Go.Proofs.Ytalfniohakahlaa.X
open Go.RowKit Go.Proofs.YtalfniohakahlaaW.PrintWords Go.Proofs.YtalfniohakahlaaW.PrintLast Go.Proofs.YtalfniohakahlaaW.PrintMore Go.Proofs.Ytalfniohakahlaa.Ma
set_option linter.unusedVariables false
theorem sp_word_Add {a b c:Int} (ha:wd a = true) (hb:wd b = true) (hc:wd c = true):word_Add.f a b c = some ((a + b + c % 2) % 18446744073709551616,(a + b + c % 2) / 18446744073709551616):=by
  rw [wd_iff] at ha hb hc
  unfold word_Add.f;rw [if_pos ⟨⟨ha.1,hb.1⟩,hc⟩]
theorem sp_word_Mul {a b c d:Int} (ha:wd a = true) (hb:wd b = true) (hc:wd c = true) (hd:wd d = true):word_Mul.f a b c d = some ((a * b + c + d) / 18446744073709551616,(a * b + c + d) % 18446744073709551616):=by
  rw [wd_iff] at ha hb hc hd
  unfold word_Mul.f;rw [if_pos ⟨⟨ha,hb⟩,hc,hd⟩]
theorem sp_word_Mask {a:Int} (ha:wd a = true):word_Mask.f a = some (if a % 2 = 1 then 18446744073709551615 else 0):=by
  rw [wd_iff] at ha
  unfold word_Mask.f;rw [b_and1 ha.1 ha.2,wU]
  congr 1;split <;> omega
theorem sp_ref_One {b:Bool}:sconceref01_One.f b = some (if b = true then 1 else 0):=by
  unfold sconceref01_One.f;split <;> rfl
end Go.Proofs.Ytalfniohakahlaa.X
end
