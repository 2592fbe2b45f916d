/- Texts of the walk and of the plain laws, laid together by a program: X20. -/
import Derived.Test.YtonpekldcnankaaZC13
import Derived.Test.YtonpekldcnankaaZC18
set_option maxHeartbeats 8000000
set_option maxRecDepth 100000
namespace Go.Proofs.Ytonpekldcnankaa.X
open Go.RowKit Go.Proofs.YtonpekldcnankaaW.PrintWords Go.Proofs.YtonpekldcnankaaW.PrintLast Go.Proofs.YtonpekldcnankaaW.PrintMore
attribute [local go_sem] max2_int min2_int max_two min_two max_three min_three max_four min_four
set_option linter.unusedVariables false
set_option linter.unusedSimpArgs false
def sconceref03_Mod.f (l0:List Int) (l1:List Int):Option (List Int):=(sconceref03_DivMod.f l0 l1).bind fun bt295 => (some bt295.2)
theorem sconceref03_Mod.calls (P0_:Nat→Prop) (A0:Option Addr) (c0:Nat) (l0:List Int) (A1:Option Addr) (c1:Nat) (l1:List Int) (r:List Int) (w:World) (hs0:Kd.V (Kd.int .u32) 83 w w.heap.size (fun k_ => P0_ k_) (.slice A0 l0.length c0) l0) (hr1:Kd.C (Kd.int .u32) w A1 l1.length l1) (hc1:l1.length≤c1) (h:sconceref03_Mod.f l0 l1 = some r) :
  Calls Try.prog 59 #[.slice A0 l0.length c0,.slice A1 l1.length c1] w fun e w' => ∃ v0_:Value,e = .returned (v0_)∧Kd.V (Kd.int .u32) 83 w' w.heap.size (fun k_ => (P0_ k_∨w.heap.size≤k_)) v0_ r∧Below w.heap.size w w':=by
 have HO0:=Aside0.mk (show Kd.V (Kd.int .u32) 83 w w.heap.size (fun k_ => (P0_ k_∨w.heap.size≤k_)) (.slice A0 l0.length c0) l0 from Kd.V_mono hs0 (fun k_ hk => .inl hk))
 have HR1:=Aside0.mk hr1
 have HC1:=Aside0.mk hc1
 clear hr1 hc1
 have HB:=Aside0.mk (Below.refl w.heap.size w)
 have H:((sconceref03_DivMod.f l0 l1).bind fun bt295 => (some bt295.2)) = some r:=h
 clear h
 replace H:=Option.bind_eq_some_iff.mp H
 obtain ⟨⟨t295,t298⟩,A30,H⟩:=H
 replace H:(some t298) = some r:=H
 have A3:=Aside0.mk A30
 clear A30
 obtain rfl:=Option.some.inj H
 go_enter Try.func59,Try.ntmps59
 go_wp2_with (first | ((with_reducible refine gate_callee (f:=100) rfl ?_);refine goesL_ (some 10) rfl rfl Try.func100 (by kernel_rfl) rfl #[.slice A0 l0.length c0,.slice A1 l1.length c1] rfl vA ?_;(with_reducible refine (sconceref03_DivMod.calls (fun k_ => (P0_ k_∨w.heap.size≤k_)) _ _ l0 _ _ l1 t295 t298 _ ?side1 ?side2 ?side3 A3.out).mono ?_);(case side1 => exact HO0.out);(case side2 => repeat (first | exact HR1.out | (with_reducible refine Kd.C_alloc ?_ _) | (with_reducible refine Kd.C_drewN ?_ _) | (with_reducible refine Kd.C_drew ?_)));(case side3 => exact HC1.out);rintro e w4 ⟨v296,v299,rfl,ho0,ho1,hb⟩;refine ⟨_,rfl,?_⟩;have n0_:=Aside0.mk (Kd.V_below (vV HO0.out) hb);have n1_:=Aside0.mk (Kd.V_lower (Kd.V_mono (ok':=fun k_ => (P0_ k_∨w.heap.size≤k_)) ho0 (fun k_ hk_ => Or.elim hk_ (fun hs_ => hs_) (fun hn_ => (.inr (Nat.le_trans (below_size (vB HB.out)) hn_))))) (below_size (vB HB.out)));have n2_:=Aside0.mk (Kd.V_lower (Kd.V_mono (ok':=fun k_ => (P0_ k_∨w.heap.size≤k_)) ho1 (fun k_ hk_ => Or.elim hk_ (fun hs_ => hs_) (fun hn_ => (.inr (Nat.le_trans (below_size (vB HB.out)) hn_))))) (below_size (vB HB.out)));have n3_:=Aside0.mk (below_step (vB HB.out) hb);clear HO0;clear HB;have HO0:=n0_;have HO297:=n1_;have HO300:=n2_;have HB:=n3_;clear n0_ n1_ n2_ n3_;(try clear hb);(try clear hb2);(try clear hk);(try clear hi);(try clear ho0);(try clear ho1)))
 go_ret
 exact ⟨_,by first | rfl | (simp [errW_none,errW_some] <;> rfl) | (simp [*,errW_none,errW_some] <;> rfl),by (with_reducible repeat (first | apply Kd.V_alloc | apply Kd.V_drewN | apply Kd.V_drew));exact HO300.out,by repeat (first | (with_reducible first | exact HB.out | apply below_alloc | apply pw_below_drewN | apply below_drew1) | exact HB.out)⟩
def sconceref01_Inverse.l0:Nat→Int→Int→Int→Option (Int)
 | 0,_,_,_ => none
 | k + 1,x0,x3,x4 => if x4 < 64 then (if 0≤(IntKind.u64.wrap (x4)) then ((sconceref01_One.f (x4 == 0)).bind fun t301 => (if (Go.bits .and .u64 (shr .u64 (IntKind.u64.wrap (x0 * x3)) (IntKind.u64.wrap (x4))) 1) = t301 then (sconceref01_Inverse.l0 k x0 x3 (wrap64 (x4 + 1))) else (sconceref01_Inverse.l0 k x0 (Go.bits .or .u64 x3 (shl .u64 1 (IntKind.u64.wrap (x4)))) (wrap64 (x4 + 1))))) else (none)) else (some x3)
def sconceref01_Inverse.f (k:Nat) (a0:Int):Option (Int):=if (Int.tmod a0 2) = 0 then (some 0) else (sconceref01_Inverse.l0 k a0 0 0)
theorem sconceref01_Inverse.mono_l:∀ k,(∀ y0 y1 y2,LeO (sconceref01_Inverse.l0 k y0 y1 y2) (sconceref01_Inverse.l0 (k + 1) y0 y1 y2))
 | 0 => fun _ _ _ r h => by simp [sconceref01_Inverse.l0] at h
 | k + 1 => by
  have ih0:=sconceref01_Inverse.mono_l k
  ·
   intro y0 y1 y2
   unfold sconceref01_Inverse.l0
   repeat' first
   | (with_reducible exact ih0 _ _ _)
   | (with_reducible exact LeO.refl _)
   | (with_reducible exact LeO.none _)
   | (with_reducible refine LeO.ite ?_ ?_)
   | (with_reducible refine LeO.bind ?_ (fun _ => ?_))
   | exact ih0 _ _ _
   | exact LeO.none _
   | refine LeO.ite ?_ ?_
   | refine LeO.bind ?_ (fun _ => ?_)
theorem sconceref01_Inverse.mono:∀ a0 k,LeO (sconceref01_Inverse.f k a0) (sconceref01_Inverse.f (k + 1) a0):=by
 intro a0 k
 have ih0:=sconceref01_Inverse.mono_l k
 unfold sconceref01_Inverse.f
 repeat' first
   | (with_reducible exact ih0 _ _ _)
   | (with_reducible exact LeO.refl _)
   | (with_reducible exact LeO.none _)
   | (with_reducible refine LeO.ite ?_ ?_)
   | (with_reducible refine LeO.bind ?_ (fun _ => ?_))
   | exact ih0 _ _ _
   | exact LeO.none _
   | refine LeO.ite ?_ ?_
   | refine LeO.bind ?_ (fun _ => ?_)
theorem sconceref01_Inverse.calls (k:Nat) (a0:Int) (r:Int) (w:World) (h:sconceref01_Inverse.f k a0 = some r) :
  Calls Try.prog 101 #[.int .u64 a0] w fun e w' => e = .returned (.int .u64 r)∧Drawn0 w w':=by
 have H:(if (Int.tmod a0 2) = 0 then (some 0) else (sconceref01_Inverse.l0 k a0 0 0)) = some r:=h
 clear h
 by_cases c2:(Int.tmod a0 2) = 0
 ·
  rw [if_pos c2] at H
  have c2b0:((Int.tmod a0 2) == 0) = true:=beq_iff_eq.mpr c2
  have c2b1:((Int.tmod a0 2) != 0) = false:=bne_eq_false_iff_eq.mpr c2
  clear c2
  obtain rfl:=Option.some.inj H
  go_enter Try.func101,Try.ntmps101
  go_wp2
  go_ret
  exact ⟨by first | rfl | (simp;done) | (simp [*];done),by repeat (first | exact Drawn0.refl _ | apply Drawn0.step)⟩
 ·
  rw [if_neg c2] at H
  have c2b0:((Int.tmod a0 2) == 0) = false:=beq_eq_false_iff_ne.mpr c2
  have c2b1:((Int.tmod a0 2) != 0) = true:=bne_iff_ne.mpr c2
  have H':=Aside0.mk H
  clear H
  go_enter Try.func101,Try.ntmps101
  go_wp2
  go_loopg [3,4] k (fun kq v3 v4 w' => ∃ (x3_1:Int) (x4_1:Int),v3 = .int .u64 x3_1∧v4 = .int .i64 x4_1∧Aside0 (sconceref01_Inverse.l0 kq a0 x3_1 x4_1 = some r)∧Aside0 (kq≤k)∧Drawn0 w w')
  case atStart => exact ⟨(0),(0),(by first | rfl | (simp;done) | (simp [*];done)),(by first | rfl | (simp;done) | (simp [*];done)),H',⟨Nat.le_refl _⟩,by repeat (first | exact Drawn0.refl _ | apply Drawn0.step)⟩
  case round =>
   clear H'
   try clear c1
   try clear c2
   try clear c2b0
   try clear c2b1
   try clear p2
   obtain ⟨x3_1,x4_1,rfl,rfl,HA,HK1,⟨m1,rfl⟩⟩:=hrel
   cases gk with
   | zero => exact absurd HA.out (by simp [sconceref01_Inverse.l0])
   | succ k1 =>
    have H:=HA.out
    clear HA
    simp only [sconceref01_Inverse.l0] at H
    by_cases c3:x4_1 < 64
    ·
     rw [if_pos c3] at H
     have c3b0:decide (x4_1 < 64) = true:=decide_eq_true c3
     clear c3
     obtain ⟨ji4,hji4⟩:∃ j_:Int,(IntKind.u64.wrap (x4_1)) = j_:=⟨_,rfl⟩
     replace H:(if 0≤(ji4) then ((sconceref01_One.f (x4_1 == 0)).bind fun t301 => (if (Go.bits .and .u64 (shr .u64 (IntKind.u64.wrap (a0 * x3_1)) (ji4)) 1) = t301 then (sconceref01_Inverse.l0 k1 a0 x3_1 (wrap64 (x4_1 + 1))) else (sconceref01_Inverse.l0 k1 a0 (Go.bits .or .u64 x3_1 (shl .u64 1 (ji4))) (wrap64 (x4_1 + 1))))) else (none)) = some r:=by first | (rw [hji4] at H;exact H) | (simp only [hji4] at H ⊢;exact H)
     by_cases c5:0≤(ji4)
     ·
      rw [if_pos c5] at H
      have c5b0:=eq_true c5
      have c5b1:decide (0≤(ji4)) = true:=decide_eq_true c5
      clear c5
      obtain ⟨ji6,hji6⟩:∃ j_:Int,(shr .u64 (IntKind.u64.wrap (a0 * x3_1)) (ji4)) = j_:=⟨_,rfl⟩
      replace H:((sconceref01_One.f (x4_1 == 0)).bind fun t301 => (if (Go.bits .and .u64 (ji6) 1) = t301 then (sconceref01_Inverse.l0 k1 a0 x3_1 (wrap64 (x4_1 + 1))) else (sconceref01_Inverse.l0 k1 a0 (Go.bits .or .u64 x3_1 (shl .u64 1 (ji4))) (wrap64 (x4_1 + 1))))) = some r:=by first | (rw [hji6] at H;exact H) | (simp only [hji6] at H ⊢;exact H)
      have hji6_:((IntKind.u64.wrap (a0 * x3_1)) / 2 ^ min (ji4).toNat 64) = ji6:=hji6
      have hji6z:(ji4)≤64→((IntKind.u64.wrap (a0 * x3_1)) / 2 ^ (ji4).toNat) = ji6:=shr_small hji6
      replace H:=Option.bind_eq_some_iff.mp H
      obtain ⟨t301,A70,H⟩:=H
      replace H:(if (Go.bits .and .u64 (ji6) 1) = t301 then (sconceref01_Inverse.l0 k1 a0 x3_1 (wrap64 (x4_1 + 1))) else (sconceref01_Inverse.l0 k1 a0 (Go.bits .or .u64 x3_1 (shl .u64 1 (ji4))) (wrap64 (x4_1 + 1)))) = some r:=H
      have A7:=Aside0.mk A70
      clear A70
      by_cases c8:(Go.bits .and .u64 (ji6) 1) = t301
      ·
       rw [if_pos c8] at H
       have c8b0:((Go.bits .and .u64 (ji6) 1) == t301) = true:=beq_iff_eq.mpr c8
       have c8b1:((Go.bits .and .u64 (ji6) 1) != t301) = false:=bne_eq_false_iff_eq.mpr c8
       clear c8
       have H':=Aside0.mk H
       clear H
       go_wp2_with (first | ((with_reducible refine gate_callee (f:=140) rfl ?_);refine goesL_ (some 21) rfl rfl Try.func140 (by kernel_rfl) rfl #[.bool (x4_1 == 0)] rfl vA ?_;(with_reducible refine (sconceref01_One.calls (x4_1 == 0) t301 _ A7.out).mono ?_);rintro e w' ⟨rfl,⟨nd,rfl⟩⟩;refine ⟨_,rfl,?_⟩))
       go_roundg k1
       case measure => have:=HK1.out;omega
       case rel => exact ⟨(x3_1),(wrap64 (x4_1 + 1)),(by first | rfl | (simp;done) | (simp [*];done)),(by first | rfl | (simp;done) | (simp [*];done)),H',⟨by have:=HK1.out;omega⟩,by repeat (first | exact Drawn0.refl _ | apply Drawn0.step)⟩
      ·
       rw [if_neg c8] at H
       have c8b0:((Go.bits .and .u64 (ji6) 1) == t301) = false:=beq_eq_false_iff_ne.mpr c8
       have c8b1:((Go.bits .and .u64 (ji6) 1) != t301) = true:=bne_iff_ne.mpr c8
       have c9b0:=eq_true (of_decide_eq_true vD:0≤(ji4))
       obtain ⟨ji10,hji10⟩:∃ j_:Int,(shl .u64 1 (ji4)) = j_:=⟨_,rfl⟩
       replace H:(sconceref01_Inverse.l0 k1 a0 (Go.bits .or .u64 x3_1 (ji10)) (wrap64 (x4_1 + 1))) = some r:=by first | (rw [hji10] at H;exact H) | (simp only [hji10] at H ⊢;exact H)
       (try rw [hji10] at A7)
       have hji10_:(IntKind.u64.wrap (1 * 2 ^ min (ji4).toNat 64)) = ji10:=hji10
       have hji10z:(ji4)≤64→(IntKind.u64.wrap (1 * 2 ^ (ji4).toNat)) = ji10:=shl_small hji10
       have hji10u:(IntKind.u64.wrap (2 ^ min (ji4).toNat 64)) = ji10:=by have h_:=hji10_;rw [Int.one_mul] at h_;exact h_
       have hji10v:(ji4)≤64→(IntKind.u64.wrap (2 ^ (ji4).toNat)) = ji10:=fun hle_ => by have h_:=hji10z hle_;rw [Int.one_mul] at h_;exact h_
       have H':=Aside0.mk H
       clear H
       go_wp2_with (first | ((with_reducible refine gate_callee (f:=140) rfl ?_);refine goesL_ (some 21) rfl rfl Try.func140 (by kernel_rfl) rfl #[.bool (x4_1 == 0)] rfl vA ?_;(with_reducible refine (sconceref01_One.calls (x4_1 == 0) t301 _ A7.out).mono ?_);rintro e w' ⟨rfl,⟨nd,rfl⟩⟩;refine ⟨_,rfl,?_⟩))
       go_roundg k1
       case measure => have:=HK1.out;omega
       case rel => exact ⟨(Go.bits .or .u64 x3_1 (ji10)),(wrap64 (x4_1 + 1)),(by first | rfl | (simp;done) | (simp only [← hji10] <;> (first | rfl | simp)) | (simp [*];done)),(by first | rfl | (simp;done) | (simp [*];done)),H',⟨by have:=HK1.out;omega⟩,by repeat (first | exact Drawn0.refl _ | apply Drawn0.step)⟩
     ·
      rw [if_neg c5] at H
      exact absurd H (by simp)
    ·
     rw [if_neg c3] at H
     have c3b0:decide (x4_1 < 64) = false:=decide_eq_false c3
     clear c3
     obtain rfl:=Option.some.inj H
     go_wp2
     go_ret
     exact ⟨by first | rfl | (simp;done) | (simp [*];done),by repeat (first | exact Drawn0.refl _ | apply Drawn0.step)⟩
mutual
def sconceref06_Setup.j1:Nat→List Int→Int→Option (List Int × Int × List Int × Int)
 | 0,_,_ => none
 | k + 1,x0,x4 => if x4 > 130 then (some (([]:List Int),0,([]:List Int),2)) else (if 0≤x4 then (if x4≤(x0.length:Int) then ((sconceref03_Of.f k (x0.take (x4:Int).toNat)).bind fun t305 => ((sconceref03_Small.f k 2).bind fun t308 => ((sconceref03_Cmp.f k t305 t308).bind fun t311 => (if t311 < 0 then (some (([]:List Int),0,([]:List Int),1)) else (if 0 < (t305.length:Int) then (if (Int.tmod (rd t305 0) 2) = 0 then (some (([]:List Int),0,([]:List Int),60)) else ((sconceref03_Least.f k t305).bind fun t313 => (if 0 < (t313.length:Int) then ((sconceref01_Inverse.f k (rd t313 0)).bind fun t318 => ((sconceref03_Small.f k 1).bind fun t319 => ((sconceref03_Shl.f k t319 (wrap64 (128 * x4))).bind fun t322 => ((sconceref03_Mod.f t322 t305).bind fun t325 => ((sconceref03_Nat.f k t325 x4).bind fun t328 => (some (t313,IntKind.u64.wrap (-t318),t328,0))))))) else (none)))) else (none)))))) else (none)) else (none))
def sconceref06_Setup.l0:Nat→List Int→Int→Option (List Int × Int × List Int × Int)
 | 0,_,_ => none
 | k + 1,x0,x4 => if x4 > 0 then (if 0≤(wrap64 (x4 - 1)) then (if (wrap64 (x4 - 1)) < (x0.length:Int) then (if (rd x0 (wrap64 (x4 - 1))) = 0 then (sconceref06_Setup.l0 k x0 (wrap64 (x4 - 1))) else (sconceref06_Setup.j1 k x0 x4)) else (none)) else (none)) else (sconceref06_Setup.j1 k x0 x4)
end
def sconceref06_Setup.f (k:Nat) (l0:List Int):Option (List Int × Int × List Int × Int):=sconceref06_Setup.l0 k l0 (l0.length:Int)
theorem sconceref06_Setup.mono_l:∀ k,(∀ y0 y1,LeO (sconceref06_Setup.j1 k y0 y1) (sconceref06_Setup.j1 (k + 1) y0 y1))∧(∀ y0 y1,LeO (sconceref06_Setup.l0 k y0 y1) (sconceref06_Setup.l0 (k + 1) y0 y1))
 | 0 => ⟨fun _ _ r h => by simp [sconceref06_Setup.j1] at h,fun _ _ r h => by simp [sconceref06_Setup.l0] at h⟩
 | k + 1 => by
  obtain ⟨ih0,ih1⟩:=sconceref06_Setup.mono_l k
  refine ⟨?_,?_⟩
  ·
   intro y0 y1
   unfold sconceref06_Setup.j1
   repeat' first
   | (with_reducible exact ih0 _ _)
   | (with_reducible exact ih1 _ _)
   | (with_reducible exact sconceref01_Inverse.mono _ _)
   | (with_reducible exact sconceref03_Cmp.mono _ _ _)
   | (with_reducible exact sconceref03_Least.mono _ _)
   | (with_reducible exact sconceref03_Nat.mono _ _ _)
   | (with_reducible exact sconceref03_Of.mono _ _)
   | (with_reducible exact sconceref03_Shl.mono _ _ _)
   | (with_reducible exact sconceref03_Small.mono _ _)
   | (with_reducible exact LeO.refl _)
   | (with_reducible exact LeO.none _)
   | (with_reducible refine LeO.ite ?_ ?_)
   | (with_reducible refine LeO.bind ?_ (fun _ => ?_))
   | exact ih0 _ _
   | exact ih1 _ _
   | exact sconceref01_Inverse.mono _ _
   | exact sconceref03_Cmp.mono _ _ _
   | exact sconceref03_Least.mono _ _
   | exact sconceref03_Nat.mono _ _ _
   | exact sconceref03_Of.mono _ _
   | exact sconceref03_Shl.mono _ _ _
   | exact sconceref03_Small.mono _ _
   | exact LeO.none _
   | refine LeO.ite ?_ ?_
   | refine LeO.bind ?_ (fun _ => ?_)
  ·
   intro y0 y1
   unfold sconceref06_Setup.l0
   repeat' first
   | (with_reducible exact ih0 _ _)
   | (with_reducible exact ih1 _ _)
   | (with_reducible exact sconceref01_Inverse.mono _ _)
   | (with_reducible exact sconceref03_Cmp.mono _ _ _)
   | (with_reducible exact sconceref03_Least.mono _ _)
   | (with_reducible exact sconceref03_Nat.mono _ _ _)
   | (with_reducible exact sconceref03_Of.mono _ _)
   | (with_reducible exact sconceref03_Shl.mono _ _ _)
   | (with_reducible exact sconceref03_Small.mono _ _)
   | (with_reducible exact LeO.refl _)
   | (with_reducible exact LeO.none _)
   | (with_reducible refine LeO.ite ?_ ?_)
   | (with_reducible refine LeO.bind ?_ (fun _ => ?_))
   | exact ih0 _ _
   | exact ih1 _ _
   | exact sconceref01_Inverse.mono _ _
   | exact sconceref03_Cmp.mono _ _ _
   | exact sconceref03_Least.mono _ _
   | exact sconceref03_Nat.mono _ _ _
   | exact sconceref03_Of.mono _ _
   | exact sconceref03_Shl.mono _ _ _
   | exact sconceref03_Small.mono _ _
   | exact LeO.none _
   | refine LeO.ite ?_ ?_
   | refine LeO.bind ?_ (fun _ => ?_)
theorem sconceref06_Setup.mono:∀ a0 k,LeO (sconceref06_Setup.f k a0) (sconceref06_Setup.f (k + 1) a0):=by
 intro a0 k
 obtain ⟨ih0,ih1⟩:=sconceref06_Setup.mono_l k
 unfold sconceref06_Setup.f
 repeat' first
   | (with_reducible exact ih0 _ _)
   | (with_reducible exact ih1 _ _)
   | (with_reducible exact sconceref01_Inverse.mono _ _)
   | (with_reducible exact sconceref03_Cmp.mono _ _ _)
   | (with_reducible exact sconceref03_Least.mono _ _)
   | (with_reducible exact sconceref03_Nat.mono _ _ _)
   | (with_reducible exact sconceref03_Of.mono _ _)
   | (with_reducible exact sconceref03_Shl.mono _ _ _)
   | (with_reducible exact sconceref03_Small.mono _ _)
   | (with_reducible exact LeO.refl _)
   | (with_reducible exact LeO.none _)
   | (with_reducible refine LeO.ite ?_ ?_)
   | (with_reducible refine LeO.bind ?_ (fun _ => ?_))
   | exact ih0 _ _
   | exact ih1 _ _
   | exact sconceref01_Inverse.mono _ _
   | exact sconceref03_Cmp.mono _ _ _
   | exact sconceref03_Least.mono _ _
   | exact sconceref03_Nat.mono _ _ _
   | exact sconceref03_Of.mono _ _
   | exact sconceref03_Shl.mono _ _ _
   | exact sconceref03_Small.mono _ _
   | exact LeO.none _
   | refine LeO.ite ?_ ?_
   | refine LeO.bind ?_ (fun _ => ?_)
theorem sconceref06_Setup.calls (k:Nat) (A0:Option Addr) (c0:Nat) (l0:List Int) (r1:List Int) (r2:Int) (r3:List Int) (r4:Int) (w:World) (hr0:Kd.C (Kd.int .u64) w A0 l0.length l0) (hc0:l0.length≤c0) (h:sconceref06_Setup.f k l0 = some (r1,r2,r3,r4)) :
  Calls Try.prog 62 #[.slice A0 l0.length c0] w fun e w' => ∃ v0_ v2_:Value,e = .returned (.tuple #[.agg #[v0_,.int .u64 r2,v2_],.int .i64 r4])∧Kd.R (Kd.int .u64) 24 w' w.heap.size (fun k_ => some k_≠(v2_:Value).ownBlock) v0_ r1∧Kd.R (Kd.int .u64) 24 w' w.heap.size (fun k_ => some k_≠(v0_:Value).ownBlock) v2_ r3∧Below w.heap.size w w':=by
 have hu26:=Try.underlying26
 have HR0:=Aside0.mk hr0
 have HC0:=Aside0.mk hc0
 clear hr0 hc0
 have HB:=Aside0.mk (Below.refl w.heap.size w)
 have H:(sconceref06_Setup.l0 k l0 (l0.length:Int)) = some (r1,r2,r3,r4):=h
 clear h
 have HC2:=Aside0.mk H
 clear H
 go_enter Try.func62,Try.ntmps62
 go_upto_block 0 with (first | ((with_reducible refine gate_dst (N:=2) rfl ?_);refine box_event ?hg (N:=2) ?hd (cs:=#[.slice none 0 0,.int .u64 0,.slice none 0 0]) (t:=26) ?hr ?_;(case hd => rfl);(case hg => rfl);(case hr => first | (go_simp;done) | (go_simp;rfl));intro gb302 hg w3 hbox hb;have n0_:=Aside0.mk (below_step (vB HB.out) hb);have n1_:=Aside0.mk (hbox);have n2_:=Aside0.mk ((by rw [hg];exact (below_size (vB HB.out)):w.heap.size≤gb302));have n3_:=Aside0.mk ((by rw [hg];exact (below_size (vB HB.out)):w.heap.size≤gb302));clear HB;have HB:=n0_;have BK302:=n1_;have GW302:=n2_;have GE302:=n3_;clear n0_ n1_ n2_ n3_;clear hb hbox hg))
 (try simp only [Act.put,List.setIfInBounds_toArray,List.set_cons_zero,List.set_cons_succ])
 go_cut [4] (fun v4 wc => ∃ (kq:Nat) (x4_1:Int),v4 = .int .i64 x4_1∧Aside0 (sconceref06_Setup.j1 kq l0 x4_1 = some (r1,r2,r3,r4))∧Aside0 (kq≤k)∧Aside0 (wc.heap[gb302]? = some (.cells #[(.slice none 0 0),.int .u64 0,(.slice none 0 0)] 26 (0,0)))∧Aside0 (Below w.heap.size w wc))
 case first =>
  have H:=HC2.out
  clear HC2
  have H':=Aside0.mk H
  clear H
  go_wp2
  go_loopg [4] k (fun kq v4 w' => ∃ (x4_1:Int),v4 = .int .i64 x4_1∧Aside0 (sconceref06_Setup.l0 kq l0 x4_1 = some (r1,r2,r3,r4))∧Aside0 (kq≤k)∧Aside0 (w'.heap[gb302]? = some (.cells #[(.slice none 0 0),.int .u64 0,(.slice none 0 0)] 26 (0,0)))∧Aside0 (Below w.heap.size w w'))
  case atStart => exact ⟨((l0.length:Int)),(by first | rfl | (simp;done) | (simp [*];done)),H',⟨Nat.le_refl _⟩,⟨by (with_reducible repeat (first | refine blk_drewN ?_ _ | refine blk_drew ?_ | refine blk_alloc ?_ _));exact BK302.out⟩,⟨by repeat (first | (with_reducible first | exact HB.out | apply below_alloc | apply pw_below_drewN | apply below_drew1 | refine below_set ?_ GE302.out) | exact HB.out)⟩⟩
  case round =>
   clear H'
   try clear p2
   obtain ⟨x4_1,rfl,HA,HK1,BK302,HB⟩:=hrel
   cases gk with
   | zero => exact absurd HA.out (by simp [sconceref06_Setup.l0])
   | succ k1 =>
    have H:=HA.out
    clear HA
    simp only [sconceref06_Setup.l0] at H
    by_cases c4:x4_1 > 0
    ·
     rw [if_pos c4] at H
     have c4b0:decide (0 < x4_1) = true:=decide_eq_true c4
     clear c4
     (first | rw [c4b0] | (simp only [i64_w,i32_w];rw [c4b0]) | skip)
     obtain ⟨ji5,hji5⟩:∃ j_:Int,(wrap64 (x4_1 - 1)) = j_:=⟨_,rfl⟩
     replace H:(if 0≤(ji5) then (if (ji5) < (l0.length:Int) then (if (rd l0 (ji5)) = 0 then (sconceref06_Setup.l0 k1 l0 ji5) else (sconceref06_Setup.j1 k1 l0 x4_1)) else (none)) else (none)) = some (r1,r2,r3,r4):=by first | (rw [hji5] at H;exact H) | (simp only [hji5] at H ⊢;exact H)
     have hji5w:(IntKind.i64.wrap (x4_1 - 1)) = ji5:=(i64_w _).trans hji5
     by_cases c6:0≤(ji5)
     ·
      rw [if_pos c6] at H
      have c6b0:decide (0≤(ji5)) = true:=decide_eq_true c6
      clear c6
      by_cases c7:(ji5) < (l0.length:Int)
      ·
       rw [if_pos c7] at H
       have c7b0:decide ((ji5) < (l0.length:Int)) = true:=decide_eq_true c7
       clear c7
       by_cases c8:(rd l0 (ji5)) = 0
       ·
        rw [if_pos c8] at H
        have c8b0:((rd l0 (ji5)) == 0) = true:=beq_iff_eq.mpr c8
        have c8b1:((rd l0 (ji5)) != 0) = false:=bne_eq_false_iff_eq.mpr c8
        clear c8
        have H':=Aside0.mk H
        clear H
        have p303:0≤((ji5):Int):=of_decide_eq_true vD
        have q303:(ji5) < (l0.length:Int):=of_decide_eq_true vD
        obtain ⟨ad303,e303,hx303_0⟩:=Kd.at_int HR0.out (ji5) p303 q303
        cases e303
        replace hx303_0:=(HB.out.cell (World.block_lt_of_cell? w _ hx303_0)).trans hx303_0
        replace p303:=eq_true p303
        replace q303:=eq_true q303
        go_wp2
        go_roundg k1
        case measure => have:=HK1.out;omega
        case rel => exact ⟨(ji5),(by first | rfl | (simp;done) | (simp only [← hji5] <;> (first | rfl | simp)) | (simp [*];done)),H',⟨by have:=HK1.out;omega⟩,⟨by (with_reducible repeat (first | refine blk_drewN ?_ _ | refine blk_drew ?_ | refine blk_alloc ?_ _));exact BK302.out⟩,⟨by repeat (first | (with_reducible first | exact HB.out | apply below_alloc | apply pw_below_drewN | apply below_drew1 | refine below_set ?_ GE302.out) | exact HB.out)⟩⟩
       ·
        rw [if_neg c8] at H
        have c8b0:((rd l0 (ji5)) == 0) = false:=beq_eq_false_iff_ne.mpr c8
        have c8b1:((rd l0 (ji5)) != 0) = true:=bne_iff_ne.mpr c8
        have H':=Aside0.mk H
        clear H
        have p303:0≤((ji5):Int):=of_decide_eq_true vD
        have q303:(ji5) < (l0.length:Int):=of_decide_eq_true vD
        obtain ⟨ad303,e303,hx303_0⟩:=Kd.at_int HR0.out (ji5) p303 q303
        cases e303
        replace hx303_0:=(HB.out.cell (World.block_lt_of_cell? w _ hx303_0)).trans hx303_0
        replace p303:=eq_true p303
        replace q303:=eq_true q303
        go_wp2
        go_meet
        case rel => exact ⟨_,(x4_1),(by first | rfl | (simp;done) | (simp [*];done)),H',⟨by have:=HK1.out;first | omega | exact Nat.le_refl _⟩,⟨by (with_reducible repeat (first | refine blk_drewN ?_ _ | refine blk_drew ?_ | refine blk_alloc ?_ _));exact BK302.out⟩,⟨by repeat (first | (with_reducible first | exact HB.out | apply below_alloc | apply pw_below_drewN | apply below_drew1 | refine below_set ?_ GE302.out) | exact HB.out)⟩⟩
      ·
       rw [if_neg c7] at H
       exact absurd H (by simp)
     ·
      rw [if_neg c6] at H
      exact absurd H (by simp)
    ·
     rw [if_neg c4] at H
     have c4b0:decide (0 < x4_1) = false:=decide_eq_false c4
     clear c4
     (first | rw [c4b0] | (simp only [i64_w,i32_w];rw [c4b0]) | skip)
     have H':=Aside0.mk H
     clear H
     go_wp2
     go_meet
     case rel => exact ⟨_,(x4_1),(by first | rfl | (simp;done) | (simp [*];done)),H',⟨by have:=HK1.out;first | omega | exact Nat.le_refl _⟩,⟨by (with_reducible repeat (first | refine blk_drewN ?_ _ | refine blk_drew ?_ | refine blk_alloc ?_ _));exact BK302.out⟩,⟨by repeat (first | (with_reducible first | exact HB.out | apply below_alloc | apply pw_below_drewN | apply below_drew1 | refine below_set ?_ GE302.out) | exact HB.out)⟩⟩
 case rest =>
  clear HC2
  try clear p2
  try clear p3
  try clear q3
  try clear hx3
  try clear c4
  try clear c4b0
  try clear c6
  try clear c6b0
  try clear p6
  try clear c7
  try clear c7b0
  try clear c8
  try clear c8b0
  try clear c8b1
  try clear hx303_0
  try clear p2
  try clear p303
  try clear q303
  obtain ⟨kq,x4_1,rfl,HA,HJ1,BK302,HB⟩:=hcut
  cases kq with
  | zero => exact absurd HA.out (by simp [sconceref06_Setup.j1])
  | succ kj1 =>
   have H:=HA.out
   clear HA
   simp only [sconceref06_Setup.j1] at H
   by_cases c9:x4_1 > 130
   ·
    rw [if_pos c9] at H
    have c9b0:decide (130 < x4_1) = true:=decide_eq_true c9
    clear c9
    simp only [Option.some.injEq,Prod.mk.injEq] at H
    obtain ⟨rfl,rfl,rfl,rfl⟩:=H
    have hcz10_0:wc.cell? ⟨gb302,0,none⟩ = some (.slice none 0 0):=(blk_cell BK302.out 0).trans rfl
    have hcz10_1:wc.cell? ⟨gb302,1,none⟩ = some (.int .u64 0):=(blk_cell BK302.out 1).trans rfl
    have hcz10_2:wc.cell? ⟨gb302,2,none⟩ = some (.slice none 0 0):=(blk_cell BK302.out 2).trans rfl
    have hfz10_0:=blk_frozen BK302.out 0
    have hfz10_1:=blk_frozen BK302.out 1
    have hfz10_2:=blk_frozen BK302.out 2
    go_wp2
    refine bodyPost_ret (results_ct rfl _ _ gb302 26 #[.slice none 0 0,.int .u64 0,.slice none 0 0] (0,0) _ rfl (by (with_reducible repeat (first | refine blk_drewN ?_ _ | refine blk_drew ?_ | refine blk_alloc ?_ _));refine blk_put (cs:=#[.slice none 0 0,.int .u64 0,.slice none 0 0]) ?_ 2 _ rfl;(with_reducible repeat (first | refine blk_drewN ?_ _ | refine blk_drew ?_ | refine blk_alloc ?_ _));refine blk_put (cs:=#[.slice none 0 0,.int .u64 0,.slice none 0 0]) ?_ 1 _ rfl;(with_reducible repeat (first | refine blk_drewN ?_ _ | refine blk_drew ?_ | refine blk_alloc ?_ _));refine blk_put (cs:=#[.slice none 0 0,.int .u64 0,.slice none 0 0]) ?_ 0 _ rfl;(with_reducible repeat (first | refine blk_drewN ?_ _ | refine blk_drew ?_ | refine blk_alloc ?_ _));exact BK302.out) Try.underlying26 rfl (by kernel_rfl)) rfl ?_
    exact ⟨_,_,by first | rfl | (simp [errW_none,errW_some] <;> rfl) | (simp [*,errW_none,errW_some] <;> rfl),by first | exact Kd.R_nil _ _ _ _ _ | exact Kd.N_nil _ _ _ _ _ | exact Kd.V_nil _ _ _ _ _ | exact Kd.Q_nil _ _ _ _ _ | exact Kd.S_nil _ _ _ _ _,by first | exact Kd.R_nil _ _ _ _ _ | exact Kd.N_nil _ _ _ _ _ | exact Kd.V_nil _ _ _ _ _ | exact Kd.Q_nil _ _ _ _ _ | exact Kd.S_nil _ _ _ _ _,by repeat (first | (with_reducible first | exact HB.out | apply below_alloc | apply pw_below_drewN | apply below_drew1 | refine below_set ?_ GE302.out) | exact HB.out)⟩
   ·
    rw [if_neg c9] at H
    have c9b0:decide (130 < x4_1) = false:=decide_eq_false c9
    clear c9
    by_cases c11:0≤x4_1
    ·
     rw [if_pos c11] at H
     have c11b0:=eq_true c11
     have c11b1:decide (0≤x4_1) = true:=decide_eq_true c11
     clear c11
     by_cases c12:x4_1≤(l0.length:Int)
     ·
      rw [if_pos c12] at H
      have c12b0:=eq_true c12
      have c12b1:decide (x4_1≤(l0.length:Int)) = true:=decide_eq_true c12
      clear c12
      replace H:=Option.bind_eq_some_iff.mp H
      obtain ⟨t305,A130,H⟩:=H
      replace H:((sconceref03_Small.f kj1 2).bind fun t308 => ((sconceref03_Cmp.f kj1 t305 t308).bind fun t311 => (if t311 < 0 then (some (([]:List Int),0,([]:List Int),1)) else (if 0 < (t305.length:Int) then (if (Int.tmod (rd t305 0) 2) = 0 then (some (([]:List Int),0,([]:List Int),60)) else ((sconceref03_Least.f kj1 t305).bind fun t313 => (if 0 < (t313.length:Int) then ((sconceref01_Inverse.f kj1 (rd t313 0)).bind fun t318 => ((sconceref03_Small.f kj1 1).bind fun t319 => ((sconceref03_Shl.f kj1 t319 (wrap64 (128 * x4_1))).bind fun t322 => ((sconceref03_Mod.f t322 t305).bind fun t325 => ((sconceref03_Nat.f kj1 t325 x4_1).bind fun t328 => (some (t313,IntKind.u64.wrap (-t318),t328,0))))))) else (none)))) else (none))))) = some (r1,r2,r3,r4):=H
      have A13:=Aside0.mk A130
      clear A130
      replace H:=Option.bind_eq_some_iff.mp H
      obtain ⟨t308,A140,H⟩:=H
      replace H:((sconceref03_Cmp.f kj1 t305 t308).bind fun t311 => (if t311 < 0 then (some (([]:List Int),0,([]:List Int),1)) else (if 0 < (t305.length:Int) then (if (Int.tmod (rd t305 0) 2) = 0 then (some (([]:List Int),0,([]:List Int),60)) else ((sconceref03_Least.f kj1 t305).bind fun t313 => (if 0 < (t313.length:Int) then ((sconceref01_Inverse.f kj1 (rd t313 0)).bind fun t318 => ((sconceref03_Small.f kj1 1).bind fun t319 => ((sconceref03_Shl.f kj1 t319 (wrap64 (128 * x4_1))).bind fun t322 => ((sconceref03_Mod.f t322 t305).bind fun t325 => ((sconceref03_Nat.f kj1 t325 x4_1).bind fun t328 => (some (t313,IntKind.u64.wrap (-t318),t328,0))))))) else (none)))) else (none)))) = some (r1,r2,r3,r4):=H
      have A14:=Aside0.mk A140
      clear A140
      replace H:=Option.bind_eq_some_iff.mp H
      obtain ⟨t311,A150,H⟩:=H
      replace H:(if t311 < 0 then (some (([]:List Int),0,([]:List Int),1)) else (if 0 < (t305.length:Int) then (if (Int.tmod (rd t305 0) 2) = 0 then (some (([]:List Int),0,([]:List Int),60)) else ((sconceref03_Least.f kj1 t305).bind fun t313 => (if 0 < (t313.length:Int) then ((sconceref01_Inverse.f kj1 (rd t313 0)).bind fun t318 => ((sconceref03_Small.f kj1 1).bind fun t319 => ((sconceref03_Shl.f kj1 t319 (wrap64 (128 * x4_1))).bind fun t322 => ((sconceref03_Mod.f t322 t305).bind fun t325 => ((sconceref03_Nat.f kj1 t325 x4_1).bind fun t328 => (some (t313,IntKind.u64.wrap (-t318),t328,0))))))) else (none)))) else (none))) = some (r1,r2,r3,r4):=H
      have A15:=Aside0.mk A150
      clear A150
      by_cases c16:t311 < 0
      ·
       rw [if_pos c16] at H
       have c16b0:decide (t311 < 0) = true:=decide_eq_true c16
       clear c16
       simp only [Option.some.injEq,Prod.mk.injEq] at H
       obtain ⟨rfl,rfl,rfl,rfl⟩:=H
       obtain ⟨i017,hi017,_,hsz17,_⟩:=info_parts info24
       obtain ⟨hcut17,hA17,hC17⟩:=print_take_of (P:=Try.prog) (Value.int .u64) 0 23 24 .i64 Try.underlying23 hi017 hsz17 A0 c0 l0 x4_1 (of_decide_eq_true vD) (of_decide_eq_true vD) HC0.out
       have HR304:=Aside0.mk (Kd.C_of_reads (h1:=fun _ => rfl) (hA17 _ (Kd.reads_of_C HR0.out)))
       have HC304:=Aside0.mk hC17
       clear hA17 hC17 hi017 hsz17
       go_wp2_with (first | ((with_reducible refine gate_callee (f:=47) rfl ?_);refine goesL_ (some 27) rfl rfl Try.func47 (by kernel_rfl) rfl #[.slice A0 (l0.take (x4_1:Int).toNat).length c0] rfl (by (try simp only [List.map_toArray,List.map_cons,List.map_nil]);first | done | (rw [show (l0.take (x4_1:Int).toNat).length = x4_1.toNat from (by rw [List.length_take];have h_:(x4_1:Int)≤(l0.length:Int):=of_decide_eq_true vD;omega)] <;> rfl) | rfl | (simp only [List.length_drop,List.length_take];rfl)) ?_;(with_reducible refine (sconceref03_Of.calls kj1 _ _ (l0.take (x4_1:Int).toNat) t305 _ ?side1 ?side2 A13.out).mono ?_);(case side1 => repeat (first | exact (Kd.C_below HR304.out HB.out) | (with_reducible refine Kd.C_alloc ?_ _) | (with_reducible refine Kd.C_drewN ?_ _) | (with_reducible refine Kd.C_drew ?_)));(case side2 => exact HC304.out);rintro e w18 ⟨v306,rfl,ho0,hb⟩;refine ⟨_,rfl,?_⟩;have n0_:=Aside0.mk (Kd.V_lower (Kd.V_mono (ok':=fun k_ => k_≠gb302) ho0 (fun k_ hk_ => (Kd.freshB (g:=gb302) (o:=.cells #[.slice none 0 0,.int .u64 0,.slice none 0 0] 26 (0,0)) (vK BK302.out) k_ hk_))) (below_size (vBg HB.out GE302.out)));have n1_:=Aside0.mk (blk_below (g:=gb302) (o:=.cells #[.slice none 0 0,.int .u64 0,.slice none 0 0] 26 (0,0)) (vK BK302.out) hb);have n2_:=Aside0.mk (below_step (vBg HB.out GE302.out) hb);clear BK302;clear HB;have HO307:=n0_;have BK302:=n1_;have HB:=n2_;clear n0_ n1_ n2_;(try clear hb);(try clear hb2);(try clear hk);(try clear hi);(try clear ho0)) | ((with_reducible refine gate_callee (f:=44) rfl ?_);refine goesL_ (some 29) rfl rfl Try.func44 (by kernel_rfl) rfl #[.int .u64 2] rfl vA ?_;(with_reducible refine (sconceref03_Small.calls kj1 2 t308 _ A14.out).mono ?_);rintro e w19 ⟨v309,rfl,ho0,hb⟩;refine ⟨_,rfl,?_⟩;have n0_:=Aside0.mk (Kd.V_below (vV HO307.out) hb);have n1_:=Aside0.mk (Kd.V_lower (Kd.V_mono (ok':=fun k_ => k_≠gb302) ho0 (fun k_ hk_ => (Kd.freshB (g:=gb302) (o:=.cells #[.slice none 0 0,.int .u64 0,.slice none 0 0] 26 (0,0)) (vK BK302.out) k_ hk_))) (below_size (vBg HB.out GE302.out)));have n2_:=Aside0.mk (blk_below (g:=gb302) (o:=.cells #[.slice none 0 0,.int .u64 0,.slice none 0 0] 26 (0,0)) (vK BK302.out) hb);have n3_:=Aside0.mk (below_step (vBg HB.out GE302.out) hb);clear HO307;clear BK302;clear HB;have HO307:=n0_;have HO310:=n1_;have BK302:=n2_;have HB:=n3_;clear n0_ n1_ n2_ n3_;(try clear hb);(try clear hb2);(try clear hk);(try clear hi);(try clear ho0);obtain ⟨Ao20,co20,eo20⟩:=Kd.V_slice HO307.out;subst eo20;obtain ⟨Ao21,co21,eo21⟩:=Kd.V_slice HO310.out;subst eo21) | ((with_reducible refine gate_callee (f:=60) rfl ?_);refine goesL_ (some 30) rfl rfl Try.func60 (by kernel_rfl) rfl #[.slice Ao20 t305.length co20,.slice Ao21 t308.length co21] rfl vA ?_;(with_reducible refine (sconceref03_Cmp.calls kj1 _ _ t305 _ _ t308 t311 _ ?side1 ?side2 ?side3 ?side4 A15.out).mono ?_);(case side1 => repeat (first | exact (Kd.V_reads' HO307.out).2.2 | (with_reducible refine Kd.C_alloc ?_ _) | (with_reducible refine Kd.C_drewN ?_ _) | (with_reducible refine Kd.C_drew ?_)));(case side2 => exact (Kd.V_reads' HO307.out).2.1);(case side3 => repeat (first | exact (Kd.V_reads' HO310.out).2.2 | (with_reducible refine Kd.C_alloc ?_ _) | (with_reducible refine Kd.C_drewN ?_ _) | (with_reducible refine Kd.C_drew ?_)));(case side4 => exact (Kd.V_reads' HO310.out).2.1);rintro e w' ⟨rfl,⟨nd,rfl⟩⟩;refine ⟨_,rfl,?_⟩;(try (rw [drewN_self w19];generalize hq_:World.drewN w19 _ = w19;have n0_:Aside0 (Kd.V (Kd.int .u32) 83 w19 w.heap.size (fun k_ => k_≠gb302) (.slice Ao20 t305.length co20) t305):=⟨by rw [← hq_];exact (vV HO307.out)⟩;have n1_:Aside0 (Kd.V (Kd.int .u32) 83 w19 w.heap.size (fun k_ => k_≠gb302) (.slice Ao21 t308.length co21) t308):=⟨by rw [← hq_];exact (vV HO310.out)⟩;have n2_:Aside0 (w19.heap[gb302]? = some (.cells #[.slice none 0 0,.int .u64 0,.slice none 0 0] 26 (0,0))):=⟨by rw [← hq_];exact (vK BK302.out)⟩;have n3_:Aside0 (Below w.heap.size w w19):=⟨by rw [← hq_];exact (vBg HB.out GE302.out)⟩;clear HO307 HO310 BK302 HB hq_;have HO307:=n0_;have HO310:=n1_;have BK302:=n2_;have HB:=n3_;clear n0_ n1_ n2_ n3_));have hcz22_0:w19.cell? ⟨gb302,0,none⟩ = some (.slice none 0 0):=(blk_cell BK302.out 0).trans rfl;have hcz22_1:w19.cell? ⟨gb302,1,none⟩ = some (.int .u64 0):=(blk_cell BK302.out 1).trans rfl;have hcz22_2:w19.cell? ⟨gb302,2,none⟩ = some (.slice none 0 0):=(blk_cell BK302.out 2).trans rfl;have hfz22_0:=blk_frozen BK302.out 0;have hfz22_1:=blk_frozen BK302.out 1;have hfz22_2:=blk_frozen BK302.out 2))
       refine bodyPost_ret (results_ct rfl _ _ gb302 26 #[.slice none 0 0,.int .u64 0,.slice none 0 0] (0,0) _ rfl (by (with_reducible repeat (first | refine blk_drewN ?_ _ | refine blk_drew ?_ | refine blk_alloc ?_ _));refine blk_put (cs:=#[.slice none 0 0,.int .u64 0,.slice none 0 0]) ?_ 2 _ rfl;(with_reducible repeat (first | refine blk_drewN ?_ _ | refine blk_drew ?_ | refine blk_alloc ?_ _));refine blk_put (cs:=#[.slice none 0 0,.int .u64 0,.slice none 0 0]) ?_ 1 _ rfl;(with_reducible repeat (first | refine blk_drewN ?_ _ | refine blk_drew ?_ | refine blk_alloc ?_ _));refine blk_put (cs:=#[.slice none 0 0,.int .u64 0,.slice none 0 0]) ?_ 0 _ rfl;(with_reducible repeat (first | refine blk_drewN ?_ _ | refine blk_drew ?_ | refine blk_alloc ?_ _));exact BK302.out) Try.underlying26 rfl (by kernel_rfl)) rfl ?_
       exact ⟨_,_,by first | rfl | (simp [errW_none,errW_some] <;> rfl) | (simp [*,errW_none,errW_some] <;> rfl),by first | exact Kd.R_nil _ _ _ _ _ | exact Kd.N_nil _ _ _ _ _ | exact Kd.V_nil _ _ _ _ _ | exact Kd.Q_nil _ _ _ _ _ | exact Kd.S_nil _ _ _ _ _,by first | exact Kd.R_nil _ _ _ _ _ | exact Kd.N_nil _ _ _ _ _ | exact Kd.V_nil _ _ _ _ _ | exact Kd.Q_nil _ _ _ _ _ | exact Kd.S_nil _ _ _ _ _,by repeat (first | (with_reducible first | exact HB.out | apply below_alloc | apply pw_below_drewN | apply below_drew1 | refine below_set ?_ GE302.out) | exact HB.out)⟩
      ·
       rw [if_neg c16] at H
       have c16b0:decide (t311 < 0) = false:=decide_eq_false c16
       clear c16
       by_cases c23:0 < (t305.length:Int)
       ·
        rw [if_pos c23] at H
        have c23b0:decide (0 < (t305.length:Int)) = true:=decide_eq_true c23
        have c23b1:decide (0 < t305.length) = true:=decide_eq_true (by omega)
        clear c23
        by_cases c24:(Int.tmod (rd t305 0) 2) = 0
        ·
         rw [if_pos c24] at H
         have c24b0:((Int.tmod (rd t305 0) 2) == 0) = true:=beq_iff_eq.mpr c24
         have c24b1:((Int.tmod (rd t305 0) 2) != 0) = false:=bne_eq_false_iff_eq.mpr c24
         clear c24
         simp only [Option.some.injEq,Prod.mk.injEq] at H
         obtain ⟨rfl,rfl,rfl,rfl⟩:=H
         obtain ⟨i025,hi025,_,hsz25,_⟩:=info_parts info24
         obtain ⟨hcut25,hA25,hC25⟩:=print_take_of (P:=Try.prog) (Value.int .u64) 0 23 24 .i64 Try.underlying23 hi025 hsz25 A0 c0 l0 x4_1 (of_decide_eq_true vD) (of_decide_eq_true vD) HC0.out
         have HR304:=Aside0.mk (Kd.C_of_reads (h1:=fun _ => rfl) (hA25 _ (Kd.reads_of_C HR0.out)))
         have HC304:=Aside0.mk hC25
         clear hA25 hC25 hi025 hsz25
         go_wp2_with (first | ((with_reducible refine gate_callee (f:=47) rfl ?_);refine goesL_ (some 27) rfl rfl Try.func47 (by kernel_rfl) rfl #[.slice A0 (l0.take (x4_1:Int).toNat).length c0] rfl (by (try simp only [List.map_toArray,List.map_cons,List.map_nil]);first | done | (rw [show (l0.take (x4_1:Int).toNat).length = x4_1.toNat from (by rw [List.length_take];have h_:(x4_1:Int)≤(l0.length:Int):=of_decide_eq_true vD;omega)] <;> rfl) | rfl | (simp only [List.length_drop,List.length_take];rfl)) ?_;(with_reducible refine (sconceref03_Of.calls kj1 _ _ (l0.take (x4_1:Int).toNat) t305 _ ?side1 ?side2 A13.out).mono ?_);(case side1 => repeat (first | exact (Kd.C_below HR304.out HB.out) | (with_reducible refine Kd.C_alloc ?_ _) | (with_reducible refine Kd.C_drewN ?_ _) | (with_reducible refine Kd.C_drew ?_)));(case side2 => exact HC304.out);rintro e w26 ⟨v306,rfl,ho0,hb⟩;refine ⟨_,rfl,?_⟩;have n0_:=Aside0.mk (Kd.V_lower (Kd.V_mono (ok':=fun k_ => k_≠gb302) ho0 (fun k_ hk_ => (Kd.freshB (g:=gb302) (o:=.cells #[.slice none 0 0,.int .u64 0,.slice none 0 0] 26 (0,0)) (vK BK302.out) k_ hk_))) (below_size (vBg HB.out GE302.out)));have n1_:=Aside0.mk (blk_below (g:=gb302) (o:=.cells #[.slice none 0 0,.int .u64 0,.slice none 0 0] 26 (0,0)) (vK BK302.out) hb);have n2_:=Aside0.mk (below_step (vBg HB.out GE302.out) hb);clear BK302;clear HB;have HO307:=n0_;have BK302:=n1_;have HB:=n2_;clear n0_ n1_ n2_;(try clear hb);(try clear hb2);(try clear hk);(try clear hi);(try clear ho0)) | ((with_reducible refine gate_callee (f:=44) rfl ?_);refine goesL_ (some 29) rfl rfl Try.func44 (by kernel_rfl) rfl #[.int .u64 2] rfl vA ?_;(with_reducible refine (sconceref03_Small.calls kj1 2 t308 _ A14.out).mono ?_);rintro e w27 ⟨v309,rfl,ho0,hb⟩;refine ⟨_,rfl,?_⟩;have n0_:=Aside0.mk (Kd.V_below (vV HO307.out) hb);have n1_:=Aside0.mk (Kd.V_lower (Kd.V_mono (ok':=fun k_ => k_≠gb302) ho0 (fun k_ hk_ => (Kd.freshB (g:=gb302) (o:=.cells #[.slice none 0 0,.int .u64 0,.slice none 0 0] 26 (0,0)) (vK BK302.out) k_ hk_))) (below_size (vBg HB.out GE302.out)));have n2_:=Aside0.mk (blk_below (g:=gb302) (o:=.cells #[.slice none 0 0,.int .u64 0,.slice none 0 0] 26 (0,0)) (vK BK302.out) hb);have n3_:=Aside0.mk (below_step (vBg HB.out GE302.out) hb);clear HO307;clear BK302;clear HB;have HO307:=n0_;have HO310:=n1_;have BK302:=n2_;have HB:=n3_;clear n0_ n1_ n2_ n3_;(try clear hb);(try clear hb2);(try clear hk);(try clear hi);(try clear ho0);obtain ⟨Ao28,co28,eo28⟩:=Kd.V_slice HO307.out;subst eo28;obtain ⟨Ao29,co29,eo29⟩:=Kd.V_slice HO310.out;subst eo29) | ((with_reducible refine gate_callee (f:=60) rfl ?_);refine goesL_ (some 30) rfl rfl Try.func60 (by kernel_rfl) rfl #[.slice Ao28 t305.length co28,.slice Ao29 t308.length co29] rfl vA ?_;(with_reducible refine (sconceref03_Cmp.calls kj1 _ _ t305 _ _ t308 t311 _ ?side1 ?side2 ?side3 ?side4 A15.out).mono ?_);(case side1 => repeat (first | exact (Kd.V_reads' HO307.out).2.2 | (with_reducible refine Kd.C_alloc ?_ _) | (with_reducible refine Kd.C_drewN ?_ _) | (with_reducible refine Kd.C_drew ?_)));(case side2 => exact (Kd.V_reads' HO307.out).2.1);(case side3 => repeat (first | exact (Kd.V_reads' HO310.out).2.2 | (with_reducible refine Kd.C_alloc ?_ _) | (with_reducible refine Kd.C_drewN ?_ _) | (with_reducible refine Kd.C_drew ?_)));(case side4 => exact (Kd.V_reads' HO310.out).2.1);rintro e w' ⟨rfl,⟨nd,rfl⟩⟩;refine ⟨_,rfl,?_⟩;(try (rw [drewN_self w27];generalize hq_:World.drewN w27 _ = w27;have n0_:Aside0 (Kd.V (Kd.int .u32) 83 w27 w.heap.size (fun k_ => k_≠gb302) (.slice Ao28 t305.length co28) t305):=⟨by rw [← hq_];exact (vV HO307.out)⟩;have n1_:Aside0 (Kd.V (Kd.int .u32) 83 w27 w.heap.size (fun k_ => k_≠gb302) (.slice Ao29 t308.length co29) t308):=⟨by rw [← hq_];exact (vV HO310.out)⟩;have n2_:Aside0 (w27.heap[gb302]? = some (.cells #[.slice none 0 0,.int .u64 0,.slice none 0 0] 26 (0,0))):=⟨by rw [← hq_];exact (vK BK302.out)⟩;have n3_:Aside0 (Below w.heap.size w w27):=⟨by rw [← hq_];exact (vBg HB.out GE302.out)⟩;clear HO307 HO310 BK302 HB hq_;have HO307:=n0_;have HO310:=n1_;have BK302:=n2_;have HB:=n3_;clear n0_ n1_ n2_ n3_));have p312:0≤(0:Int):=(by omega);have q312:0 < (t305.length:Int):=of_decide_eq_true vD;obtain ⟨ad312,e312,hx312_0⟩:=Kd.at_int (Kd.V_reads' HO307.out).2.2 0 p312 q312;cases e312;have qi312:(0 < t305.length) = True:=eq_true (by omega);(try rw [show ((0:Int)).toNat = 0 from rfl] at hx312_0);(try rw [Addr.add_zero'] at hx312_0);replace p312:=eq_true p312;replace q312:=eq_true q312;have hcz30_0:w27.cell? ⟨gb302,0,none⟩ = some (.slice none 0 0):=(blk_cell BK302.out 0).trans rfl;have hcz30_1:w27.cell? ⟨gb302,1,none⟩ = some (.int .u64 0):=(blk_cell BK302.out 1).trans rfl;have hcz30_2:w27.cell? ⟨gb302,2,none⟩ = some (.slice none 0 0):=(blk_cell BK302.out 2).trans rfl;have hfz30_0:=blk_frozen BK302.out 0;have hfz30_1:=blk_frozen BK302.out 1;have hfz30_2:=blk_frozen BK302.out 2))
         refine bodyPost_ret (results_ct rfl _ _ gb302 26 #[.slice none 0 0,.int .u64 0,.slice none 0 0] (0,0) _ rfl (by (with_reducible repeat (first | refine blk_drewN ?_ _ | refine blk_drew ?_ | refine blk_alloc ?_ _));refine blk_put (cs:=#[.slice none 0 0,.int .u64 0,.slice none 0 0]) ?_ 2 _ rfl;(with_reducible repeat (first | refine blk_drewN ?_ _ | refine blk_drew ?_ | refine blk_alloc ?_ _));refine blk_put (cs:=#[.slice none 0 0,.int .u64 0,.slice none 0 0]) ?_ 1 _ rfl;(with_reducible repeat (first | refine blk_drewN ?_ _ | refine blk_drew ?_ | refine blk_alloc ?_ _));refine blk_put (cs:=#[.slice none 0 0,.int .u64 0,.slice none 0 0]) ?_ 0 _ rfl;(with_reducible repeat (first | refine blk_drewN ?_ _ | refine blk_drew ?_ | refine blk_alloc ?_ _));exact BK302.out) Try.underlying26 rfl (by kernel_rfl)) rfl ?_
         exact ⟨_,_,by first | rfl | (simp [errW_none,errW_some] <;> rfl) | (simp [*,errW_none,errW_some] <;> rfl),by first | exact Kd.R_nil _ _ _ _ _ | exact Kd.N_nil _ _ _ _ _ | exact Kd.V_nil _ _ _ _ _ | exact Kd.Q_nil _ _ _ _ _ | exact Kd.S_nil _ _ _ _ _,by first | exact Kd.R_nil _ _ _ _ _ | exact Kd.N_nil _ _ _ _ _ | exact Kd.V_nil _ _ _ _ _ | exact Kd.Q_nil _ _ _ _ _ | exact Kd.S_nil _ _ _ _ _,by repeat (first | (with_reducible first | exact HB.out | apply below_alloc | apply pw_below_drewN | apply below_drew1 | refine below_set ?_ GE302.out) | exact HB.out)⟩
        ·
         rw [if_neg c24] at H
         have c24b0:((Int.tmod (rd t305 0) 2) == 0) = false:=beq_eq_false_iff_ne.mpr c24
         have c24b1:((Int.tmod (rd t305 0) 2) != 0) = true:=bne_iff_ne.mpr c24
         replace H:=Option.bind_eq_some_iff.mp H
         obtain ⟨t313,A310,H⟩:=H
         replace H:(if 0 < (t313.length:Int) then ((sconceref01_Inverse.f kj1 (rd t313 0)).bind fun t318 => ((sconceref03_Small.f kj1 1).bind fun t319 => ((sconceref03_Shl.f kj1 t319 (wrap64 (128 * x4_1))).bind fun t322 => ((sconceref03_Mod.f t322 t305).bind fun t325 => ((sconceref03_Nat.f kj1 t325 x4_1).bind fun t328 => (some (t313,IntKind.u64.wrap (-t318),t328,0))))))) else (none)) = some (r1,r2,r3,r4):=H
         have A31:=Aside0.mk A310
         clear A310
         by_cases c32:0 < (t313.length:Int)
         ·
          rw [if_pos c32] at H
          have c32b0:decide (0 < (t313.length:Int)) = true:=decide_eq_true c32
          have c32b1:decide (0 < t313.length) = true:=decide_eq_true (by omega)
          clear c32
          replace H:=Option.bind_eq_some_iff.mp H
          obtain ⟨t318,A330,H⟩:=H
          replace H:((sconceref03_Small.f kj1 1).bind fun t319 => ((sconceref03_Shl.f kj1 t319 (wrap64 (128 * x4_1))).bind fun t322 => ((sconceref03_Mod.f t322 t305).bind fun t325 => ((sconceref03_Nat.f kj1 t325 x4_1).bind fun t328 => (some (t313,IntKind.u64.wrap (-t318),t328,0)))))) = some (r1,r2,r3,r4):=H
          have A33:=Aside0.mk A330
          clear A330
          replace H:=Option.bind_eq_some_iff.mp H
          obtain ⟨t319,A340,H⟩:=H
          replace H:((sconceref03_Shl.f kj1 t319 (wrap64 (128 * x4_1))).bind fun t322 => ((sconceref03_Mod.f t322 t305).bind fun t325 => ((sconceref03_Nat.f kj1 t325 x4_1).bind fun t328 => (some (t313,IntKind.u64.wrap (-t318),t328,0))))) = some (r1,r2,r3,r4):=H
          have A34:=Aside0.mk A340
          clear A340
          replace H:=Option.bind_eq_some_iff.mp H
          obtain ⟨t322,A350,H⟩:=H
          replace H:((sconceref03_Mod.f t322 t305).bind fun t325 => ((sconceref03_Nat.f kj1 t325 x4_1).bind fun t328 => (some (t313,IntKind.u64.wrap (-t318),t328,0)))) = some (r1,r2,r3,r4):=H
          have A35:=Aside0.mk A350
          clear A350
          replace H:=Option.bind_eq_some_iff.mp H
          obtain ⟨t325,A360,H⟩:=H
          replace H:((sconceref03_Nat.f kj1 t325 x4_1).bind fun t328 => (some (t313,IntKind.u64.wrap (-t318),t328,0))) = some (r1,r2,r3,r4):=H
          have A36:=Aside0.mk A360
          clear A360
          replace H:=Option.bind_eq_some_iff.mp H
          obtain ⟨t328,A370,H⟩:=H
          replace H:(some (t313,IntKind.u64.wrap (-t318),t328,0)) = some (r1,r2,r3,r4):=H
          have A37:=Aside0.mk A370
          clear A370
          simp only [Option.some.injEq,Prod.mk.injEq] at H
          obtain ⟨rfl,rfl,rfl,rfl⟩:=H
          obtain ⟨i038,hi038,_,hsz38,_⟩:=info_parts info24
          obtain ⟨hcut38,hA38,hC38⟩:=print_take_of (P:=Try.prog) (Value.int .u64) 0 23 24 .i64 Try.underlying23 hi038 hsz38 A0 c0 l0 x4_1 (of_decide_eq_true vD) (of_decide_eq_true vD) HC0.out
          have HR304:=Aside0.mk (Kd.C_of_reads (h1:=fun _ => rfl) (hA38 _ (Kd.reads_of_C HR0.out)))
          have HC304:=Aside0.mk hC38
          clear hA38 hC38 hi038 hsz38
          go_wp2_with (first | ((with_reducible refine gate_callee (f:=47) rfl ?_);refine goesL_ (some 27) rfl rfl Try.func47 (by kernel_rfl) rfl #[.slice A0 (l0.take (x4_1:Int).toNat).length c0] rfl (by (try simp only [List.map_toArray,List.map_cons,List.map_nil]);first | done | (rw [show (l0.take (x4_1:Int).toNat).length = x4_1.toNat from (by rw [List.length_take];have h_:(x4_1:Int)≤(l0.length:Int):=of_decide_eq_true vD;omega)] <;> rfl) | rfl | (simp only [List.length_drop,List.length_take];rfl)) ?_;(with_reducible refine (sconceref03_Of.calls kj1 _ _ (l0.take (x4_1:Int).toNat) t305 _ ?side1 ?side2 A13.out).mono ?_);(case side1 => repeat (first | exact (Kd.C_below HR304.out HB.out) | (with_reducible refine Kd.C_alloc ?_ _) | (with_reducible refine Kd.C_drewN ?_ _) | (with_reducible refine Kd.C_drew ?_)));(case side2 => exact HC304.out);rintro e w39 ⟨v306,rfl,ho0,hb⟩;refine ⟨_,rfl,?_⟩;have n0_:=Aside0.mk (Kd.V_lower (Kd.V_mono (ok':=fun k_ => k_≠gb302) ho0 (fun k_ hk_ => (Kd.freshB (g:=gb302) (o:=.cells #[.slice none 0 0,.int .u64 0,.slice none 0 0] 26 (0,0)) (vK BK302.out) k_ hk_))) (below_size (vBg HB.out GE302.out)));have n1_:=Aside0.mk (blk_below (g:=gb302) (o:=.cells #[.slice none 0 0,.int .u64 0,.slice none 0 0] 26 (0,0)) (vK BK302.out) hb);have n2_:=Aside0.mk (below_step (vBg HB.out GE302.out) hb);clear BK302;clear HB;have HO307:=n0_;have BK302:=n1_;have HB:=n2_;clear n0_ n1_ n2_;(try clear hb);(try clear hb2);(try clear hk);(try clear hi);(try clear ho0)) | ((with_reducible refine gate_callee (f:=44) rfl ?_);refine goesL_ (some 29) rfl rfl Try.func44 (by kernel_rfl) rfl #[.int .u64 2] rfl vA ?_;(with_reducible refine (sconceref03_Small.calls kj1 2 t308 _ A14.out).mono ?_);rintro e w40 ⟨v309,rfl,ho0,hb⟩;refine ⟨_,rfl,?_⟩;have n0_:=Aside0.mk (Kd.V_below (vV HO307.out) hb);have n1_:=Aside0.mk (Kd.V_lower (Kd.V_mono (ok':=fun k_ => k_≠gb302) ho0 (fun k_ hk_ => (Kd.freshB (g:=gb302) (o:=.cells #[.slice none 0 0,.int .u64 0,.slice none 0 0] 26 (0,0)) (vK BK302.out) k_ hk_))) (below_size (vBg HB.out GE302.out)));have n2_:=Aside0.mk (blk_below (g:=gb302) (o:=.cells #[.slice none 0 0,.int .u64 0,.slice none 0 0] 26 (0,0)) (vK BK302.out) hb);have n3_:=Aside0.mk (below_step (vBg HB.out GE302.out) hb);clear HO307;clear BK302;clear HB;have HO307:=n0_;have HO310:=n1_;have BK302:=n2_;have HB:=n3_;clear n0_ n1_ n2_ n3_;(try clear hb);(try clear hb2);(try clear hk);(try clear hi);(try clear ho0);obtain ⟨Ao41,co41,eo41⟩:=Kd.V_slice HO307.out;subst eo41;obtain ⟨Ao42,co42,eo42⟩:=Kd.V_slice HO310.out;subst eo42) | ((with_reducible refine gate_callee (f:=60) rfl ?_);refine goesL_ (some 30) rfl rfl Try.func60 (by kernel_rfl) rfl #[.slice Ao41 t305.length co41,.slice Ao42 t308.length co42] rfl vA ?_;(with_reducible refine (sconceref03_Cmp.calls kj1 _ _ t305 _ _ t308 t311 _ ?side1 ?side2 ?side3 ?side4 A15.out).mono ?_);(case side1 => repeat (first | exact (Kd.V_reads' HO307.out).2.2 | (with_reducible refine Kd.C_alloc ?_ _) | (with_reducible refine Kd.C_drewN ?_ _) | (with_reducible refine Kd.C_drew ?_)));(case side2 => exact (Kd.V_reads' HO307.out).2.1);(case side3 => repeat (first | exact (Kd.V_reads' HO310.out).2.2 | (with_reducible refine Kd.C_alloc ?_ _) | (with_reducible refine Kd.C_drewN ?_ _) | (with_reducible refine Kd.C_drew ?_)));(case side4 => exact (Kd.V_reads' HO310.out).2.1);rintro e w' ⟨rfl,⟨nd,rfl⟩⟩;refine ⟨_,rfl,?_⟩;(try (rw [drewN_self w40];generalize hq_:World.drewN w40 _ = w40;have n0_:Aside0 (Kd.V (Kd.int .u32) 83 w40 w.heap.size (fun k_ => k_≠gb302) (.slice Ao41 t305.length co41) t305):=⟨by rw [← hq_];exact (vV HO307.out)⟩;have n1_:Aside0 (Kd.V (Kd.int .u32) 83 w40 w.heap.size (fun k_ => k_≠gb302) (.slice Ao42 t308.length co42) t308):=⟨by rw [← hq_];exact (vV HO310.out)⟩;have n2_:Aside0 (w40.heap[gb302]? = some (.cells #[.slice none 0 0,.int .u64 0,.slice none 0 0] 26 (0,0))):=⟨by rw [← hq_];exact (vK BK302.out)⟩;have n3_:Aside0 (Below w.heap.size w w40):=⟨by rw [← hq_];exact (vBg HB.out GE302.out)⟩;clear HO307 HO310 BK302 HB hq_;have HO307:=n0_;have HO310:=n1_;have BK302:=n2_;have HB:=n3_;clear n0_ n1_ n2_ n3_));have p312:0≤(0:Int):=(by omega);have q312:0 < (t305.length:Int):=of_decide_eq_true vD;obtain ⟨ad312,e312,hx312_0⟩:=Kd.at_int (Kd.V_reads' HO307.out).2.2 0 p312 q312;cases e312;have qi312:(0 < t305.length) = True:=eq_true (by omega);(try rw [show ((0:Int)).toNat = 0 from rfl] at hx312_0);(try rw [Addr.add_zero'] at hx312_0);replace p312:=eq_true p312;replace q312:=eq_true q312) | ((with_reducible refine gate_callee (f:=42) rfl ?_);refine goesL_ (some 40) rfl rfl Try.func42 (by kernel_rfl) rfl #[.slice (some ad312) t305.length co41] rfl vA ?_;(with_reducible refine (sconceref03_Least.calls kj1 _ _ t305 t313 _ ?side1 ?side2 A31.out).mono ?_);(case side1 => repeat (first | exact (Kd.V_reads' HO307.out).2.2 | (with_reducible refine Kd.C_alloc ?_ _) | (with_reducible refine Kd.C_drewN ?_ _) | (with_reducible refine Kd.C_drew ?_)));(case side2 => exact (Kd.V_reads' HO307.out).2.1);rintro e w43 ⟨v314,rfl,ho0,hb⟩;refine ⟨_,rfl,?_⟩;have n0_:=Aside0.mk (Kd.V_elder' (vV HO307.out) (Kd.R_base ho0) hb);have n1_:=Aside0.mk (Kd.V_elder' (vV HO310.out) (Kd.R_base ho0) hb);have n2_:=Aside0.mk (Kd.R_lower ho0 (below_size (vBg HB.out GE302.out)));have n3_:=Aside0.mk (blk_below (g:=gb302) (o:=.cells #[.slice none 0 0,.int .u64 0,.slice none 0 0] 26 (0,0)) (vK BK302.out) hb);have n4_:=Aside0.mk (below_step (vBg HB.out GE302.out) hb);clear HO307;clear HO310;clear BK302;clear HB;have HO307:=n0_;have HO310:=n1_;have HO315:=n2_;have BK302:=n3_;have HB:=n4_;clear n0_ n1_ n2_ n3_ n4_;(try clear hb);(try clear hb2);(try clear hk);(try clear hi);(try clear ho0);obtain ⟨Ao44,co44,eo44⟩:=Kd.R_slice HO315.out;subst eo44) | ((with_reducible refine gate_dst (N:=6) rfl ?_);refine box_event ?hg (N:=6) ?hd (cs:=#[.slice none 0 0,.int .u64 0,.slice none 0 0]) (t:=26) ?hr ?_;(case hd => rfl);(case hg => rfl);(case hr => first | (go_simp;done) | (go_simp;rfl));intro gb316 hg w45 hbox hb;have n0_:=Aside0.mk (Kd.V_below (Kd.V_elderB (vV HO307.out) gb316 (Nat.le_of_eq hg.symm)) hb);have n1_:=Aside0.mk (Kd.V_below (Kd.V_elderB (vV HO310.out) gb316 (Nat.le_of_eq hg.symm)) hb);have n2_:=Aside0.mk (Kd.R_below (vR HO315.out) hb);have n3_:=Aside0.mk (blk_below (g:=gb302) (o:=.cells #[.slice none 0 0,.int .u64 0,.slice none 0 0] 26 (0,0)) (vK BK302.out) hb);have n4_:=Aside0.mk (below_step (vBg HB.out GE302.out) hb);have n5_:=Aside0.mk (hbox);have n6_:=Aside0.mk ((by rw [hg];exact (below_size (vBg HB.out GE302.out)):w.heap.size≤gb316));have n7_:=Aside0.mk ((by rw [hg];exact (below_size (vBg HB.out GE302.out)):w.heap.size≤gb316));have n8_:=Aside0.mk ((by rw [hg];exact Nat.ne_of_lt (blk_lt (g:=gb302) (o:=.cells #[.slice none 0 0,.int .u64 0,.slice none 0 0] 26 (0,0)) (vK BK302.out)):gb302≠gb316));have n9_:=Aside0.mk ((by rw [hg];exact Nat.ne_of_gt (blk_lt (g:=gb302) (o:=.cells #[.slice none 0 0,.int .u64 0,.slice none 0 0] 26 (0,0)) (vK BK302.out)):gb316≠gb302));clear HO307;clear HO310;clear HO315;clear BK302;clear HB;have HO307:=n0_;have HO310:=n1_;have HO315:=n2_;have BK302:=n3_;have HB:=n4_;have BK316:=n5_;have GW316:=n6_;have GE316:=n7_;have NB302_316:=n8_;have NB316_302:=n9_;clear n0_ n1_ n2_ n3_ n4_ n5_ n6_ n7_ n8_ n9_;clear hb hbox hg;have hnb46:=NB316_302.out;have hnc46:=NB302_316.out;have hcz47_0:w45.cell? ⟨gb316,0,none⟩ = some (.slice none 0 0):=(blk_cell BK316.out 0).trans rfl;have hcz47_1:w45.cell? ⟨gb316,1,none⟩ = some (.int .u64 0):=(blk_cell BK316.out 1).trans rfl;have hcz47_2:w45.cell? ⟨gb316,2,none⟩ = some (.slice none 0 0):=(blk_cell BK316.out 2).trans rfl;have hfz47_0:=blk_frozen BK316.out 0;have hfz47_1:=blk_frozen BK316.out 1;have hfz47_2:=blk_frozen BK316.out 2;have p317:0≤(0:Int):=(by omega);have q317:0 < (t313.length:Int):=of_decide_eq_true vD;obtain ⟨ad317,e317,hx317_0⟩:=Kd.at_int (Kd.R_reads' HO315.out).2.2 0 p317 q317;cases e317;have qi317:(0 < t313.length) = True:=eq_true (by omega);(try rw [show ((0:Int)).toNat = 0 from rfl] at hx317_0);(try rw [Addr.add_zero'] at hx317_0);have hn317_0:ad317.block≠gb316:=Kd.own_blk (Kd.R_ne HO315.out BK316.out (by decide));have hn317_1:ad317.block≠gb316:=Kd.own_blk (Kd.R_ne HO315.out BK316.out (by decide));have hn317_2:ad317.block≠gb316:=Kd.own_blk (Kd.R_ne HO315.out BK316.out (by decide));replace hx317_0:=(cell_far (p:=⟨gb316,0,none⟩) (by first | (rw [add_block];exact hn317_0) | (show (Addr.add _ _).block≠_;rw [add_block];exact hn317_0) | exact hn317_0) (.slice (some ad317) t313.length co44)).trans hx317_0;replace hx317_0:=(cell_far (p:=⟨gb316,1,none⟩) (by first | (rw [add_block];exact hn317_1) | (show (Addr.add _ _).block≠_;rw [add_block];exact hn317_1) | exact hn317_1) (.int .u64 0)).trans hx317_0;replace hx317_0:=(cell_far (p:=⟨gb316,2,none⟩) (by first | (rw [add_block];exact hn317_2) | (show (Addr.add _ _).block≠_;rw [add_block];exact hn317_2) | exact hn317_2) (.slice none 0 0)).trans hx317_0;clear hn317_0;clear hn317_1;clear hn317_2;replace p317:=eq_true p317;replace q317:=eq_true q317) | ((with_reducible refine gate_callee (f:=101) rfl ?_);refine goesL_ (some 46) rfl rfl Try.func101 (by kernel_rfl) rfl #[.int .u64 (rd t313 0)] rfl vA ?_;(with_reducible refine (sconceref01_Inverse.calls kj1 (rd t313 0) t318 _ A33.out).mono ?_);rintro e w' ⟨rfl,⟨nd,rfl⟩⟩;refine ⟨_,rfl,?_⟩) | ((with_reducible refine gate_callee (f:=44) rfl ?_);refine goesL_ (some 49) rfl rfl Try.func44 (by kernel_rfl) rfl #[.int .u64 1] rfl vA ?_;(with_reducible refine (sconceref03_Small.calls kj1 1 t319 _ A34.out).mono ?_);rintro e w48 ⟨v320,rfl,ho0,hb⟩;refine ⟨_,rfl,?_⟩;have n0_:=Aside0.mk (Kd.V_below (by (with_reducible repeat (first | apply Kd.V_alloc | apply Kd.V_drewN | apply Kd.V_drew));exact (Kd.V_mono (Kd.V_far (p:=⟨gb316,1,none⟩) (Kd.V_drewN (Kd.V_far (p:=⟨gb316,2,none⟩) (Kd.V_far (p:=⟨gb316,1,none⟩) (Kd.V_far (p:=⟨gb316,0,none⟩) (Kd.V_mono HO307.out (fun k_ hk => (⟨hk,hk.2⟩:_∧k_≠gb316))) (fun _ hk => hk.2) (.slice (some ad317) t313.length co44)) (fun _ hk => hk.2) (.int .u64 0)) (fun _ hk => hk.2) (.slice none 0 0)) _) (fun _ hk => hk.2) (.int .u64 (IntKind.u64.wrap (-t318)))) (fun _ h_ => h_.1))) hb);have n1_:=Aside0.mk (Kd.V_below (by (with_reducible repeat (first | apply Kd.V_alloc | apply Kd.V_drewN | apply Kd.V_drew));exact (Kd.V_mono (Kd.V_far (p:=⟨gb316,1,none⟩) (Kd.V_drewN (Kd.V_far (p:=⟨gb316,2,none⟩) (Kd.V_far (p:=⟨gb316,1,none⟩) (Kd.V_far (p:=⟨gb316,0,none⟩) (Kd.V_mono HO310.out (fun k_ hk => (⟨hk,hk.2⟩:_∧k_≠gb316))) (fun _ hk => hk.2) (.slice (some ad317) t313.length co44)) (fun _ hk => hk.2) (.int .u64 0)) (fun _ hk => hk.2) (.slice none 0 0)) _) (fun _ hk => hk.2) (.int .u64 (IntKind.u64.wrap (-t318)))) (fun _ h_ => h_.1))) hb);have n2_:=Aside0.mk (Kd.R_below (by (with_reducible repeat (first | apply Kd.R_alloc | apply Kd.R_drewN | apply Kd.R_drew));exact (Kd.R_mono (Kd.R_far (p:=⟨gb316,1,none⟩) (Kd.R_drewN (Kd.R_far (p:=⟨gb316,2,none⟩) (Kd.R_far (p:=⟨gb316,1,none⟩) (Kd.R_far (p:=⟨gb316,0,none⟩) (Kd.R_types HO315.out BK316.out (by decide)) (fun _ hk => hk.2) (.slice (some ad317) t313.length co44)) (fun _ hk => hk.2) (.int .u64 0)) (fun _ hk => hk.2) (.slice none 0 0)) _) (fun _ hk => hk.2) (.int .u64 (IntKind.u64.wrap (-t318)))) (fun _ h_ => h_.1))) hb);have n3_:=Aside0.mk (Kd.V_lower (Kd.V_mono (ok':=fun k_ => some k_≠(.slice (some ad317) t313.length co44:Value).ownBlock∧k_≠gb302∧k_≠gb316) ho0 (fun k_ hk_ => ⟨(Kd.fresh' (Kd.R_lt (by (with_reducible repeat (first | apply Kd.R_alloc | apply Kd.R_drewN | apply Kd.R_drew));exact (Kd.R_mono (Kd.R_far (p:=⟨gb316,1,none⟩) (Kd.R_drewN (Kd.R_far (p:=⟨gb316,2,none⟩) (Kd.R_far (p:=⟨gb316,1,none⟩) (Kd.R_far (p:=⟨gb316,0,none⟩) (Kd.R_types HO315.out BK316.out (by decide)) (fun _ hk => hk.2) (.slice (some ad317) t313.length co44)) (fun _ hk => hk.2) (.int .u64 0)) (fun _ hk => hk.2) (.slice none 0 0)) _) (fun _ hk => hk.2) (.int .u64 (IntKind.u64.wrap (-t318)))) (fun _ h_ => h_.1)))) k_ hk_),(Kd.freshB (g:=gb302) (o:=.cells #[.slice none 0 0,.int .u64 0,.slice none 0 0] 26 (0,0)) (by (with_reducible repeat (first | refine blk_drewN ?_ _ | refine blk_drew ?_ | refine blk_alloc ?_ _));refine blk_far ?_ NB302_316.out _;(with_reducible repeat (first | refine blk_drewN ?_ _ | refine blk_drew ?_ | refine blk_alloc ?_ _));refine blk_far ?_ NB302_316.out _;(with_reducible repeat (first | refine blk_drewN ?_ _ | refine blk_drew ?_ | refine blk_alloc ?_ _));refine blk_far ?_ NB302_316.out _;(with_reducible repeat (first | refine blk_drewN ?_ _ | refine blk_drew ?_ | refine blk_alloc ?_ _));refine blk_far ?_ NB302_316.out _;(with_reducible repeat (first | refine blk_drewN ?_ _ | refine blk_drew ?_ | refine blk_alloc ?_ _));exact BK302.out) k_ hk_),(Kd.freshB (g:=gb316) (o:=.cells #[.slice (some ad317) t313.length co44,.int .u64 (IntKind.u64.wrap (-t318)),.slice none 0 0] 26 (0,0)) (by (with_reducible repeat (first | refine blk_drewN ?_ _ | refine blk_drew ?_ | refine blk_alloc ?_ _));refine blk_put (cs:=#[.slice (some ad317) t313.length co44,.int .u64 0,.slice none 0 0]) ?_ 1 _ rfl;(with_reducible repeat (first | refine blk_drewN ?_ _ | refine blk_drew ?_ | refine blk_alloc ?_ _));refine blk_put (cs:=#[.slice (some ad317) t313.length co44,.int .u64 0,.slice none 0 0]) ?_ 2 _ rfl;(with_reducible repeat (first | refine blk_drewN ?_ _ | refine blk_drew ?_ | refine blk_alloc ?_ _));refine blk_put (cs:=#[.slice (some ad317) t313.length co44,.int .u64 0,.slice none 0 0]) ?_ 1 _ rfl;(with_reducible repeat (first | refine blk_drewN ?_ _ | refine blk_drew ?_ | refine blk_alloc ?_ _));refine blk_put (cs:=#[.slice none 0 0,.int .u64 0,.slice none 0 0]) ?_ 0 _ rfl;(with_reducible repeat (first | refine blk_drewN ?_ _ | refine blk_drew ?_ | refine blk_alloc ?_ _));exact BK316.out) k_ hk_)⟩)) (below_size (by repeat (first | (with_reducible first | exact HB.out | apply below_alloc | apply pw_below_drewN | apply below_drew1 | refine below_set ?_ GE302.out | refine below_set ?_ GE316.out) | exact HB.out))));have n4_:=Aside0.mk (blk_below (g:=gb302) (o:=.cells #[.slice none 0 0,.int .u64 0,.slice none 0 0] 26 (0,0)) (by (with_reducible repeat (first | refine blk_drewN ?_ _ | refine blk_drew ?_ | refine blk_alloc ?_ _));refine blk_far ?_ NB302_316.out _;(with_reducible repeat (first | refine blk_drewN ?_ _ | refine blk_drew ?_ | refine blk_alloc ?_ _));refine blk_far ?_ NB302_316.out _;(with_reducible repeat (first | refine blk_drewN ?_ _ | refine blk_drew ?_ | refine blk_alloc ?_ _));refine blk_far ?_ NB302_316.out _;(with_reducible repeat (first | refine blk_drewN ?_ _ | refine blk_drew ?_ | refine blk_alloc ?_ _));refine blk_far ?_ NB302_316.out _;(with_reducible repeat (first | refine blk_drewN ?_ _ | refine blk_drew ?_ | refine blk_alloc ?_ _));exact BK302.out) hb);have n5_:=Aside0.mk (blk_below (g:=gb316) (o:=.cells #[.slice (some ad317) t313.length co44,.int .u64 (IntKind.u64.wrap (-t318)),.slice none 0 0] 26 (0,0)) (by (with_reducible repeat (first | refine blk_drewN ?_ _ | refine blk_drew ?_ | refine blk_alloc ?_ _));refine blk_put (cs:=#[.slice (some ad317) t313.length co44,.int .u64 0,.slice none 0 0]) ?_ 1 _ rfl;(with_reducible repeat (first | refine blk_drewN ?_ _ | refine blk_drew ?_ | refine blk_alloc ?_ _));refine blk_put (cs:=#[.slice (some ad317) t313.length co44,.int .u64 0,.slice none 0 0]) ?_ 2 _ rfl;(with_reducible repeat (first | refine blk_drewN ?_ _ | refine blk_drew ?_ | refine blk_alloc ?_ _));refine blk_put (cs:=#[.slice (some ad317) t313.length co44,.int .u64 0,.slice none 0 0]) ?_ 1 _ rfl;(with_reducible repeat (first | refine blk_drewN ?_ _ | refine blk_drew ?_ | refine blk_alloc ?_ _));refine blk_put (cs:=#[.slice none 0 0,.int .u64 0,.slice none 0 0]) ?_ 0 _ rfl;(with_reducible repeat (first | refine blk_drewN ?_ _ | refine blk_drew ?_ | refine blk_alloc ?_ _));exact BK316.out) hb);have n6_:=Aside0.mk (below_step (by repeat (first | (with_reducible first | exact HB.out | apply below_alloc | apply pw_below_drewN | apply below_drew1 | refine below_set ?_ GE302.out | refine below_set ?_ GE316.out) | exact HB.out)) hb);clear HO307;clear HO310;clear HO315;clear BK302;clear BK316;clear HB;have HO307:=n0_;have HO310:=n1_;have HO315:=n2_;have HO321:=n3_;have BK302:=n4_;have BK316:=n5_;have HB:=n6_;clear n0_ n1_ n2_ n3_ n4_ n5_ n6_;(try clear hb);(try clear hb2);(try clear hk);(try clear hi);(try clear ho0);obtain ⟨Ao49,co49,eo49⟩:=Kd.V_slice HO321.out;subst eo49) | ((with_reducible refine gate_callee (f:=102) rfl ?_);refine goesL_ (some 52) rfl rfl Try.func102 (by kernel_rfl) rfl #[.slice Ao49 t319.length co49,.int .i64 (wrap64 (128 * x4_1))] rfl vA ?_;(with_reducible refine (sconceref03_Shl.calls kj1 _ _ t319 (wrap64 (128 * x4_1)) t322 _ ?side1 ?side2 A35.out).mono ?_);(case side1 => repeat (first | exact (Kd.V_reads' HO321.out).2.2 | (with_reducible refine Kd.C_alloc ?_ _) | (with_reducible refine Kd.C_drewN ?_ _) | (with_reducible refine Kd.C_drew ?_)));(case side2 => exact (Kd.V_reads' HO321.out).2.1);rintro e w50 ⟨v323,rfl,ho0,hb⟩;refine ⟨_,rfl,?_⟩;have n0_:=Aside0.mk (Kd.V_below (vV HO307.out) hb);have n1_:=Aside0.mk (Kd.V_below (vV HO310.out) hb);have n2_:=Aside0.mk (Kd.R_below (vR HO315.out) hb);have n3_:=Aside0.mk (Kd.V_below (vV HO321.out) hb);have n4_:=Aside0.mk (Kd.V_lower (Kd.V_mono (ok':=fun k_ => some k_≠(.slice (some ad317) t313.length co44:Value).ownBlock∧k_≠gb302∧k_≠gb316) ho0 (fun k_ hk_ => ⟨(Kd.fresh' (Kd.R_lt (vR HO315.out)) k_ hk_),(Kd.freshB (g:=gb302) (o:=.cells #[.slice none 0 0,.int .u64 0,.slice none 0 0] 26 (0,0)) (vK BK302.out) k_ hk_),(Kd.freshB (g:=gb316) (o:=.cells #[.slice (some ad317) t313.length co44,.int .u64 (IntKind.u64.wrap (-t318)),.slice none 0 0] 26 (0,0)) (vK BK316.out) k_ hk_)⟩)) (below_size (by repeat (first | (with_reducible first | exact HB.out | apply below_alloc | apply pw_below_drewN | apply below_drew1 | refine below_set ?_ GE302.out | refine below_set ?_ GE316.out) | exact HB.out))));have n5_:=Aside0.mk (blk_below (g:=gb302) (o:=.cells #[.slice none 0 0,.int .u64 0,.slice none 0 0] 26 (0,0)) (vK BK302.out) hb);have n6_:=Aside0.mk (blk_below (g:=gb316) (o:=.cells #[.slice (some ad317) t313.length co44,.int .u64 (IntKind.u64.wrap (-t318)),.slice none 0 0] 26 (0,0)) (vK BK316.out) hb);have n7_:=Aside0.mk (below_step (by repeat (first | (with_reducible first | exact HB.out | apply below_alloc | apply pw_below_drewN | apply below_drew1 | refine below_set ?_ GE302.out | refine below_set ?_ GE316.out) | exact HB.out)) hb);clear HO307;clear HO310;clear HO315;clear HO321;clear BK302;clear BK316;clear HB;have HO307:=n0_;have HO310:=n1_;have HO315:=n2_;have HO321:=n3_;have HO324:=n4_;have BK302:=n5_;have BK316:=n6_;have HB:=n7_;clear n0_ n1_ n2_ n3_ n4_ n5_ n6_ n7_;(try clear hb);(try clear hb2);(try clear hk);(try clear hi);(try clear ho0);obtain ⟨Ao51,co51,eo51⟩:=Kd.V_slice HO324.out;subst eo51) | ((with_reducible refine gate_callee (f:=59) rfl ?_);refine goesL_ (some 54) rfl rfl Try.func59 (by kernel_rfl) rfl #[.slice Ao51 t322.length co51,.slice (some ad312) t305.length co41] rfl vA ?_;(with_reducible refine (sconceref03_Mod.calls (fun k_ => (some k_≠(.slice (some ad317) t313.length co44:Value).ownBlock∧(k_≠gb302∧k_≠gb316))) _ _ t322 _ _ t305 t325 _ ?side1 ?side2 ?side3 A36.out).mono ?_);(case side1 => exact HO324.out);(case side2 => repeat (first | exact (Kd.V_reads' HO307.out).2.2 | (with_reducible refine Kd.C_alloc ?_ _) | (with_reducible refine Kd.C_drewN ?_ _) | (with_reducible refine Kd.C_drew ?_)));(case side3 => exact (Kd.V_reads' HO307.out).2.1);rintro e w52 ⟨v326,rfl,ho0,hb⟩;refine ⟨_,rfl,?_⟩;have n0_:=Aside0.mk (Kd.V_below (vV HO307.out) hb);have n1_:=Aside0.mk (Kd.V_below (vV HO310.out) hb);have n2_:=Aside0.mk (Kd.R_below (vR HO315.out) hb);have n3_:=Aside0.mk (Kd.V_below (vV HO321.out) hb);have n4_:=Aside0.mk (Kd.V_below (vV HO324.out) hb);have n5_:=Aside0.mk (Kd.V_lower (Kd.V_mono (ok':=fun k_ => some k_≠(.slice (some ad317) t313.length co44:Value).ownBlock∧k_≠gb302∧k_≠gb316) ho0 (fun k_ hk_ => ⟨Or.elim hk_ (fun hs_ => hs_.1) (fun hn_ => (Kd.fresh' (Kd.R_lt (vR HO315.out)) k_ hn_)),Or.elim hk_ (fun hs_ => hs_.2.1) (fun hn_ => (Kd.freshB (g:=gb302) (o:=.cells #[.slice none 0 0,.int .u64 0,.slice none 0 0] 26 (0,0)) (vK BK302.out) k_ hn_)),Or.elim hk_ (fun hs_ => hs_.2.2) (fun hn_ => (Kd.freshB (g:=gb316) (o:=.cells #[.slice (some ad317) t313.length co44,.int .u64 (IntKind.u64.wrap (-t318)),.slice none 0 0] 26 (0,0)) (vK BK316.out) k_ hn_))⟩)) (below_size (by repeat (first | (with_reducible first | exact HB.out | apply below_alloc | apply pw_below_drewN | apply below_drew1 | refine below_set ?_ GE302.out | refine below_set ?_ GE316.out) | exact HB.out))));have n6_:=Aside0.mk (blk_below (g:=gb302) (o:=.cells #[.slice none 0 0,.int .u64 0,.slice none 0 0] 26 (0,0)) (vK BK302.out) hb);have n7_:=Aside0.mk (blk_below (g:=gb316) (o:=.cells #[.slice (some ad317) t313.length co44,.int .u64 (IntKind.u64.wrap (-t318)),.slice none 0 0] 26 (0,0)) (vK BK316.out) hb);have n8_:=Aside0.mk (below_step (by repeat (first | (with_reducible first | exact HB.out | apply below_alloc | apply pw_below_drewN | apply below_drew1 | refine below_set ?_ GE302.out | refine below_set ?_ GE316.out) | exact HB.out)) hb);clear HO307;clear HO310;clear HO315;clear HO321;clear HO324;clear BK302;clear BK316;clear HB;have HO307:=n0_;have HO310:=n1_;have HO315:=n2_;have HO321:=n3_;have HO324:=n4_;have HO327:=n5_;have BK302:=n6_;have BK316:=n7_;have HB:=n8_;clear n0_ n1_ n2_ n3_ n4_ n5_ n6_ n7_ n8_;(try clear hb);(try clear hb2);(try clear hk);(try clear hi);(try clear ho0);obtain ⟨Ao53,co53,eo53⟩:=Kd.V_slice HO327.out;subst eo53) | ((with_reducible refine gate_callee (f:=67) rfl ?_);refine goesL_ (some 56) rfl rfl Try.func67 (by kernel_rfl) rfl #[.slice Ao53 t325.length co53,.int .i64 x4_1] rfl vA ?_;(with_reducible refine (sconceref03_Nat.calls kj1 _ _ t325 x4_1 t328 _ ?side1 ?side2 A37.out).mono ?_);(case side1 => repeat (first | exact (Kd.V_reads' HO327.out).2.2 | (with_reducible refine Kd.C_alloc ?_ _) | (with_reducible refine Kd.C_drewN ?_ _) | (with_reducible refine Kd.C_drew ?_)));(case side2 => exact (Kd.V_reads' HO327.out).2.1);rintro e w54 ⟨v329,rfl,ho0,hb⟩;refine ⟨_,rfl,?_⟩;have n0_:=Aside0.mk (Kd.V_elder' (vV HO307.out) (Kd.R_base ho0) hb);have n1_:=Aside0.mk (Kd.V_elder' (vV HO310.out) (Kd.R_base ho0) hb);have n2_:=Aside0.mk (Kd.R_elder' (vR HO315.out) (Kd.R_base ho0) hb);have n3_:=Aside0.mk (Kd.V_elder' (vV HO321.out) (Kd.R_base ho0) hb);have n4_:=Aside0.mk (Kd.V_elder' (vV HO324.out) (Kd.R_base ho0) hb);have n5_:=Aside0.mk (Kd.V_elder' (vV HO327.out) (Kd.R_base ho0) hb);have n6_:=Aside0.mk (Kd.R_lower (Kd.R_new' ho0 (Kd.R_lt (vR HO315.out))) (below_size (by repeat (first | (with_reducible first | exact HB.out | apply below_alloc | apply pw_below_drewN | apply below_drew1 | refine below_set ?_ GE302.out | refine below_set ?_ GE316.out) | exact HB.out))));have n7_:=Aside0.mk (blk_below (g:=gb302) (o:=.cells #[.slice none 0 0,.int .u64 0,.slice none 0 0] 26 (0,0)) (vK BK302.out) hb);have n8_:=Aside0.mk (blk_below (g:=gb316) (o:=.cells #[.slice (some ad317) t313.length co44,.int .u64 (IntKind.u64.wrap (-t318)),.slice none 0 0] 26 (0,0)) (vK BK316.out) hb);have n9_:=Aside0.mk (below_step (by repeat (first | (with_reducible first | exact HB.out | apply below_alloc | apply pw_below_drewN | apply below_drew1 | refine below_set ?_ GE302.out | refine below_set ?_ GE316.out) | exact HB.out)) hb);clear HO307;clear HO310;clear HO315;clear HO321;clear HO324;clear HO327;clear BK302;clear BK316;clear HB;have HO307:=n0_;have HO310:=n1_;have HO315:=n2_;have HO321:=n3_;have HO324:=n4_;have HO327:=n5_;have HO330:=n6_;have BK302:=n7_;have BK316:=n8_;have HB:=n9_;clear n0_ n1_ n2_ n3_ n4_ n5_ n6_ n7_ n8_ n9_;(try clear hb);(try clear hb2);(try clear hk);(try clear hi);(try clear ho0);obtain ⟨Ao55,co55,eo55⟩:=Kd.R_slice HO330.out;subst eo55;have hcz56_0:w54.cell? ⟨gb316,0,none⟩ = some (.slice (some ad317) t313.length co44):=(blk_cell BK316.out 0).trans rfl;have hcz56_1:w54.cell? ⟨gb316,1,none⟩ = some (.int .u64 (IntKind.u64.wrap (-t318))):=(blk_cell BK316.out 1).trans rfl;have hcz56_2:w54.cell? ⟨gb316,2,none⟩ = some (.slice none 0 0):=(blk_cell BK316.out 2).trans rfl;have hfz56_0:=blk_frozen BK316.out 0;have hfz56_1:=blk_frozen BK316.out 1;have hfz56_2:=blk_frozen BK316.out 2;have hcz57_0:w54.cell? ⟨gb302,0,none⟩ = some (.slice none 0 0):=(blk_cell BK302.out 0).trans rfl;have hcz57_1:w54.cell? ⟨gb302,1,none⟩ = some (.int .u64 0):=(blk_cell BK302.out 1).trans rfl;have hcz57_2:w54.cell? ⟨gb302,2,none⟩ = some (.slice none 0 0):=(blk_cell BK302.out 2).trans rfl;have hfz57_0:=blk_frozen BK302.out 0;have hfz57_1:=blk_frozen BK302.out 1;have hfz57_2:=blk_frozen BK302.out 2))
          refine bodyPost_ret (results_ct rfl _ _ gb302 26 #[.slice (some ad317) t313.length co44,.int .u64 (IntKind.u64.wrap (-t318)),.slice Ao55 t328.length co55] (0,0) _ rfl (by (with_reducible repeat (first | refine blk_drewN ?_ _ | refine blk_drew ?_ | refine blk_alloc ?_ _));refine blk_put (cs:=#[.slice (some ad317) t313.length co44,.int .u64 (IntKind.u64.wrap (-t318)),.slice none 0 0]) ?_ 2 _ rfl;(with_reducible repeat (first | refine blk_drewN ?_ _ | refine blk_drew ?_ | refine blk_alloc ?_ _));refine blk_put (cs:=#[.slice (some ad317) t313.length co44,.int .u64 0,.slice none 0 0]) ?_ 1 _ rfl;(with_reducible repeat (first | refine blk_drewN ?_ _ | refine blk_drew ?_ | refine blk_alloc ?_ _));refine blk_put (cs:=#[.slice none 0 0,.int .u64 0,.slice none 0 0]) ?_ 0 _ rfl;(with_reducible repeat (first | refine blk_drewN ?_ _ | refine blk_drew ?_ | refine blk_alloc ?_ _));refine blk_far ?_ NB302_316.out _;(with_reducible repeat (first | refine blk_drewN ?_ _ | refine blk_drew ?_ | refine blk_alloc ?_ _));exact BK302.out) Try.underlying26 rfl (by kernel_rfl)) rfl ?_
          exact ⟨_,_,by first | rfl | (simp [errW_none,errW_some] <;> rfl) | (simp [*,errW_none,errW_some] <;> rfl),by (with_reducible repeat (first | apply Kd.R_alloc | apply Kd.R_drewN | apply Kd.R_drew));exact Kd.R_mono (Kd.R_far (p:=⟨gb302,2,none⟩) (Kd.R_far (p:=⟨gb302,1,none⟩) (Kd.R_far (p:=⟨gb302,0,none⟩) (Kd.R_far (p:=⟨gb316,2,none⟩) (Kd.R_types (Kd.R_types HO315.out BK316.out (by decide)) BK302.out (by decide)) (fun _ hk => hk.1.2) (.slice Ao55 t328.length co55)) (fun _ hk => hk.2) (.slice (some ad317) t313.length co44)) (fun _ hk => hk.2) (.int .u64 (IntKind.u64.wrap (-t318)))) (fun _ hk => hk.2) (.slice Ao55 t328.length co55)) (fun _ hk => hk.1.1.2),by (with_reducible repeat (first | apply Kd.R_alloc | apply Kd.R_drewN | apply Kd.R_drew));exact Kd.R_mono (Kd.R_far (p:=⟨gb302,2,none⟩) (Kd.R_far (p:=⟨gb302,1,none⟩) (Kd.R_far (p:=⟨gb302,0,none⟩) (Kd.R_far (p:=⟨gb316,2,none⟩) (Kd.R_types (Kd.R_types HO330.out BK316.out (by decide)) BK302.out (by decide)) (fun _ hk => hk.1.2) (.slice Ao55 t328.length co55)) (fun _ hk => hk.2) (.slice (some ad317) t313.length co44)) (fun _ hk => hk.2) (.int .u64 (IntKind.u64.wrap (-t318)))) (fun _ hk => hk.2) (.slice Ao55 t328.length co55)) (fun _ hk => hk.1.1.2),by repeat (first | (with_reducible first | exact HB.out | apply below_alloc | apply pw_below_drewN | apply below_drew1 | refine below_set ?_ GE302.out | refine below_set ?_ GE316.out) | exact HB.out)⟩
         ·
          rw [if_neg c32] at H
          exact absurd H (by simp)
       ·
        rw [if_neg c23] at H
        exact absurd H (by simp)
     ·
      rw [if_neg c12] at H
      exact absurd H (by simp)
    ·
     rw [if_neg c11] at H
     exact absurd H (by simp)
end Go.Proofs.Ytonpekldcnankaa.X
