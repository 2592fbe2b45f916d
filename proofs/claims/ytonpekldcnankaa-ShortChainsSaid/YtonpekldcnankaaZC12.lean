/- Texts of the walk and of the plain laws, laid together by a program: X4. -/
import Derived.Test.YtonpekldcnankaaZC11
set_option maxHeartbeats 8000000
set_option maxRecDepth 100000
namespace Go.Proofs.Ytonpekldcnankaa.X
open Go.RowKit Go.Proofs.YtonpekldcnankaaW.PrintWords Go.Proofs.YtonpekldcnankaaW.PrintLast Go.Proofs.YtonpekldcnankaaW.PrintMore
attribute [local go_sem] max2_int min2_int max_two min_two max_three min_three max_four min_four
set_option linter.unusedVariables false
set_option linter.unusedSimpArgs false
def sconceref03_Sub.l0:Nat→List Int→List Int→List Int→Int→Int→Int→Option (List Int)
 | 0,_,_,_,_,_,_ => none
 | k + 1,x0,x1,x5,x6,x9,x10 => if x10 < x9 then (if 0≤x10 then (if x10 < (x0.length:Int) then ((sconceref03_digit.f x1 x10).bind fun t165 => (if x5.length < 35184372088832 then (sconceref03_Sub.l0 k x0 x1 (x5 ++ [(wrap64 (x6 + (wrap64 ((wrap64 (rd x0 x10)) - (wrap64 (t165)))))) % 4294967296]) ((wrap64 (x6 + (wrap64 ((wrap64 (rd x0 x10)) - (wrap64 (t165)))))) / 4294967296) x9 (wrap64 (x10 + 1))) else (none))) else (none)) else (none)) else ((sconceref03_trim.f k x5).bind fun t169 => (some t169))
def sconceref03_Sub.f (k:Nat) (l0:List Int) (l1:List Int):Option (List Int):=sconceref03_Sub.l0 k l0 l1 ([]:List Int) 0 (l0.length:Int) 0
theorem sconceref03_Sub.calls (k:Nat) (A0:Option Addr) (c0:Nat) (l0:List Int) (A1:Option Addr) (c1:Nat) (l1:List Int) (r:List Int) (w:World) (hr0:Kd.C (Kd.int .u32) w A0 l0.length l0) (hc0:l0.length≤c0) (hr1:Kd.C (Kd.int .u32) w A1 l1.length l1) (hc1:l1.length≤c1) (h:sconceref03_Sub.f k l0 l1 = some r) :
  Calls Try.prog 58 #[.slice A0 l0.length c0,.slice A1 l1.length c1] w fun e w' => ∃ v0_:Value,e = .returned (v0_)∧Kd.V (Kd.int .u32) 83 w' w.heap.size (fun k_ => (w.heap.size≤k_)) v0_ r∧Below w.heap.size w w':=by
 have HR0:=Aside0.mk hr0
 have HC0:=Aside0.mk hc0
 clear hr0 hc0
 have HR1:=Aside0.mk hr1
 have HC1:=Aside0.mk hc1
 clear hr1 hc1
 have HB:=Aside0.mk (Below.refl w.heap.size w)
 have H:(sconceref03_Sub.l0 k l0 l1 ([]:List Int) 0 (l0.length:Int) 0) = some r:=h
 clear h
 have H':=Aside0.mk H
 clear H
 go_enter Try.func58,Try.ntmps58
 go_wp2
 repeat (go_quiet (fail);try go_wp2)
 go_loopg [5,6,10] k (fun kq v5 v6 v10 w' => ∃ (x5_1:List Int) (x6_1:Int) (x10_1:Int),v6 = .int .i64 x6_1∧v10 = .int .i64 x10_1∧Aside0 (sconceref03_Sub.l0 kq l0 l1 x5_1 x6_1 (l0.length:Int) x10_1 = some r)∧Aside0 (kq≤k)∧Aside0 (Kd.R (Kd.int .u32) 83 w' w.heap.size (fun k_ => (w.heap.size≤k_)) v5 x5_1)∧Aside0 (Below w.heap.size w w'))
 case atStart => exact ⟨(([]:List Int)),(0),(0),(by first | rfl | (simp;done) | (simp [*];done)),(by first | rfl | (simp;done) | (simp [*];done)),H',⟨Nat.le_refl _⟩,⟨by first | exact Kd.R_nil _ _ _ _ _ | exact Kd.N_nil _ _ _ _ _ | exact Kd.V_nil _ _ _ _ _ | exact Kd.Q_nil _ _ _ _ _ | exact Kd.S_nil _ _ _ _ _⟩,⟨by repeat (first | (with_reducible first | exact HB.out | apply below_alloc | apply pw_below_drewN | apply below_drew1) | exact HB.out)⟩⟩
 case round =>
  clear H'
  try clear c1
  try clear p2
  obtain ⟨x5_1,x6_1,x10_1,rfl,rfl,HA,HK1,HO_5,HB⟩:=hrel
  cases gk with
  | zero => exact absurd HA.out (by simp [sconceref03_Sub.l0])
  | succ k1 =>
   have H:=HA.out
   clear HA
   simp only [sconceref03_Sub.l0] at H
   by_cases c3:x10_1 < (l0.length:Int)
   ·
    rw [if_pos c3] at H
    have c3b0:decide (x10_1 < (l0.length:Int)) = true:=decide_eq_true c3
    clear c3
    by_cases c4:0≤x10_1
    ·
     rw [if_pos c4] at H
     have c4b0:decide (0≤x10_1) = true:=decide_eq_true c4
     clear c4
     by_cases c5:x10_1 < (l0.length:Int)
     ·
      rw [if_pos c5] at H
      have c5b0:decide (x10_1 < (l0.length:Int)) = true:=decide_eq_true c5
      clear c5
      replace H:=Option.bind_eq_some_iff.mp H
      obtain ⟨t165,A60,H⟩:=H
      replace H:(if x5_1.length < 35184372088832 then (sconceref03_Sub.l0 k1 l0 l1 (x5_1 ++ [(wrap64 (x6_1 + (wrap64 ((wrap64 (rd l0 x10_1)) - (wrap64 (t165)))))) % 4294967296]) ((wrap64 (x6_1 + (wrap64 ((wrap64 (rd l0 x10_1)) - (wrap64 (t165)))))) / 4294967296) (l0.length:Int) (wrap64 (x10_1 + 1))) else (none)) = some r:=H
      have A6:=Aside0.mk A60
      clear A60
      by_cases c7:x5_1.length < 35184372088832
      ·
       rw [if_pos c7] at H
       have LMc7:=Aside0.mk c7
       clear c7
       obtain ⟨y166,hy166⟩:∃ y_:List Int,y_ = (x5_1 ++ [(wrap64 (x6_1 + (wrap64 ((wrap64 (rd l0 x10_1)) - (wrap64 (t165)))))) % 4294967296]):=⟨_,rfl⟩
       replace H:(sconceref03_Sub.l0 k1 l0 l1 y166 ((wrap64 (x6_1 + (wrap64 ((wrap64 (rd l0 x10_1)) - (wrap64 (t165)))))) / 4294967296) (l0.length:Int) (wrap64 (x10_1 + 1))) = some r:=by first | (rw [hy166];with_reducible exact H) | (have H2_:=(Option.bind_some _ _).symm.trans H;rw [hy166];with_reducible exact H2_) | (have H2_:=(Option.bind_some _ _).symm.trans H;with_reducible exact H2_) | with_reducible exact H | (rw [hy166];exact H) | exact H
       have Ny166:=Aside0.mk hy166
       clear hy166
       have H':=Aside0.mk H
       clear H
       have p164:0≤(x10_1:Int):=of_decide_eq_true vD
       have q164:x10_1 < (l0.length:Int):=of_decide_eq_true vD
       obtain ⟨ad164,e164,hx164_0⟩:=Kd.at_int HR0.out x10_1 p164 q164
       cases e164
       replace hx164_0:=(HB.out.cell (World.block_lt_of_cell? w _ hx164_0)).trans hx164_0
       replace p164:=eq_true p164
       replace q164:=eq_true q164
       go_wp2_with (first | (go_at_call 86;(with_reducible refine (sconceref03_digit.calls _ _ l1 x10_1 t165 _ ?side1 ?side2 A6.out).mono ?_);(case side1 => repeat (first | exact (Kd.C_below HR1.out HB.out) | (with_reducible refine Kd.C_alloc ?_ _) | (with_reducible refine Kd.C_drewN ?_ _) | (with_reducible refine Kd.C_drew ?_)));(case side2 => exact HC1.out);rintro e w' ⟨rfl,⟨nd,rfl⟩⟩;(try first | exact ⟨rfl,_,World.drewN_drewN _ _ _⟩ | exact ⟨rfl,_,Eq.trans (World.drewN_drewN _ _ _) (congrArg (World.drewN _) (Nat.add_assoc _ _ _))⟩)) | ((with_reducible refine gate_builtin (b:=.append) (xs:=#[.tmp 25,.tmp 28]) rfl ?_);at_builtin;refine Kd.R_append (Kd.int .u32) (w0:=w) w.heap.size rfl (.tmp 25) (.tmp 28) 48 83 (.int .u32 0) 4 rfl Try.underlying48 info83 rfl (by decide) (by omega) u5 x5_1 ((wrap64 (x6_1 + (wrap64 ((wrap64 (rd l0 x10_1)) - (wrap64 (t165)))))) % 4294967296) [.int .u32 ((wrap64 (x6_1 + (wrap64 ((wrap64 (rd l0 x10_1)) - (wrap64 (t165)))))) % 4294967296)] (fun k_ => (w.heap.size≤k_)) (fun _ => False) rfl rfl ?aP (fun _ hk => hk.elim) ?aF ?aO ?aB ?aS ?aL ?_;(case aP => exact rfl);(case aB => exact (vB HB.out));(case aF => exact (fun k_ hk => (Nat.le_trans (below_size (vB HB.out)) hk)));(case aO => exact (vR HO_5.out));(case aS => exact (below_size (vB HB.out)));(case aL => have:=LMc7.out;omega);intro v167 w8 ho hb hg hat;rw [← Ny166.out] at ho;have n0_:=Aside0.mk (hb);have n1_:=Aside0.mk (ho);clear HB;clear HO_5;have HB:=n0_;have HO168:=n1_;clear n0_ n1_;clear ho hb hg hat))
       repeat (go_quiet (first | (go_at_call 86;(with_reducible refine (sconceref03_digit.calls _ _ l1 x10_1 t165 _ ?side1 ?side2 A6.out).mono ?_);(case side1 => repeat (first | exact (Kd.C_below HR1.out HB.out) | (with_reducible refine Kd.C_alloc ?_ _) | (with_reducible refine Kd.C_drewN ?_ _) | (with_reducible refine Kd.C_drew ?_)));(case side2 => exact HC1.out);rintro e w' ⟨rfl,⟨nd,rfl⟩⟩;(try first | exact ⟨rfl,_,World.drewN_drewN _ _ _⟩ | exact ⟨rfl,_,Eq.trans (World.drewN_drewN _ _ _) (congrArg (World.drewN _) (Nat.add_assoc _ _ _))⟩)) | ((with_reducible refine gate_builtin (b:=.append) (xs:=#[.tmp 25,.tmp 28]) rfl ?_);at_builtin;refine Kd.R_append (Kd.int .u32) (w0:=w) w.heap.size rfl (.tmp 25) (.tmp 28) 48 83 (.int .u32 0) 4 rfl Try.underlying48 info83 rfl (by decide) (by omega) u5 x5_1 ((wrap64 (x6_1 + (wrap64 ((wrap64 (rd l0 x10_1)) - (wrap64 (t165)))))) % 4294967296) [.int .u32 ((wrap64 (x6_1 + (wrap64 ((wrap64 (rd l0 x10_1)) - (wrap64 (t165)))))) % 4294967296)] (fun k_ => (w.heap.size≤k_)) (fun _ => False) rfl rfl ?aP (fun _ hk => hk.elim) ?aF ?aO ?aB ?aS ?aL ?_;(case aP => exact rfl);(case aB => exact (vB HB.out));(case aF => exact (fun k_ hk => (Nat.le_trans (below_size (vB HB.out)) hk)));(case aO => exact (vR HO_5.out));(case aS => exact (below_size (vB HB.out)));(case aL => have:=LMc7.out;omega);intro v167 w8 ho hb hg hat;rw [← Ny166.out] at ho;have n0_:=Aside0.mk (hb);have n1_:=Aside0.mk (ho);clear HB;clear HO_5;have HB:=n0_;have HO168:=n1_;clear n0_ n1_;clear ho hb hg hat));try go_wp2_with (first | (go_at_call 86;(with_reducible refine (sconceref03_digit.calls _ _ l1 x10_1 t165 _ ?side1 ?side2 A6.out).mono ?_);(case side1 => repeat (first | exact (Kd.C_below HR1.out HB.out) | (with_reducible refine Kd.C_alloc ?_ _) | (with_reducible refine Kd.C_drewN ?_ _) | (with_reducible refine Kd.C_drew ?_)));(case side2 => exact HC1.out);rintro e w' ⟨rfl,⟨nd,rfl⟩⟩;(try first | exact ⟨rfl,_,World.drewN_drewN _ _ _⟩ | exact ⟨rfl,_,Eq.trans (World.drewN_drewN _ _ _) (congrArg (World.drewN _) (Nat.add_assoc _ _ _))⟩)) | ((with_reducible refine gate_builtin (b:=.append) (xs:=#[.tmp 25,.tmp 28]) rfl ?_);at_builtin;refine Kd.R_append (Kd.int .u32) (w0:=w) w.heap.size rfl (.tmp 25) (.tmp 28) 48 83 (.int .u32 0) 4 rfl Try.underlying48 info83 rfl (by decide) (by omega) u5 x5_1 ((wrap64 (x6_1 + (wrap64 ((wrap64 (rd l0 x10_1)) - (wrap64 (t165)))))) % 4294967296) [.int .u32 ((wrap64 (x6_1 + (wrap64 ((wrap64 (rd l0 x10_1)) - (wrap64 (t165)))))) % 4294967296)] (fun k_ => (w.heap.size≤k_)) (fun _ => False) rfl rfl ?aP (fun _ hk => hk.elim) ?aF ?aO ?aB ?aS ?aL ?_;(case aP => exact rfl);(case aB => exact (vB HB.out));(case aF => exact (fun k_ hk => (Nat.le_trans (below_size (vB HB.out)) hk)));(case aO => exact (vR HO_5.out));(case aS => exact (below_size (vB HB.out)));(case aL => have:=LMc7.out;omega);intro v167 w8 ho hb hg hat;rw [← Ny166.out] at ho;have n0_:=Aside0.mk (hb);have n1_:=Aside0.mk (ho);clear HB;clear HO_5;have HB:=n0_;have HO168:=n1_;clear n0_ n1_;clear ho hb hg hat)))
       go_roundg k1
       case measure => have:=HK1.out;omega
       case rel => exact ⟨(y166),((wrap64 (x6_1 + (wrap64 ((wrap64 (rd l0 x10_1)) - (wrap64 (t165)))))) / 4294967296),(wrap64 (x10_1 + 1)),(by first | rfl | (simp;done) | (simp [*];done)),(by first | rfl | (simp;done) | (simp [*];done)),H',⟨by have:=HK1.out;omega⟩,⟨by (with_reducible repeat (first | apply Kd.R_alloc | apply Kd.R_drewN | apply Kd.R_drew));exact HO168.out⟩,⟨by repeat (first | (with_reducible first | exact HB.out | apply below_alloc | apply pw_below_drewN | apply below_drew1) | exact HB.out)⟩⟩
      ·
       rw [if_neg c7] at H
       exact absurd H (by simp)
     ·
      rw [if_neg c5] at H
      exact absurd H (by simp)
    ·
     rw [if_neg c4] at H
     exact absurd H (by simp)
   ·
    rw [if_neg c3] at H
    have c3b0:decide (x10_1 < (l0.length:Int)) = false:=decide_eq_false c3
    clear c3
    replace H:=Option.bind_eq_some_iff.mp H
    obtain ⟨t169,A90,H⟩:=H
    replace H:(some t169) = some r:=H
    have A9:=Aside0.mk A90
    clear A90
    obtain rfl:=Option.some.inj H
    obtain ⟨Ao10,co10,eo10⟩:=Kd.R_slice HO_5.out
    subst eo10
    go_wp2_with (first | (go_at_call 85;(with_reducible refine (sconceref03_trim.calls k1 (fun k_ => some k_ = (.slice Ao10 x5_1.length co10:Value).ownBlock) _ _ x5_1 t169 _ ?side1 A9.out).mono ?_);(case side1 => exact Kd.R_V (Kd.R_tight rfl (HO_5.out)));rintro e w11 ⟨v170,rfl,ho0,hb⟩;have n0_:=Aside0.mk (Kd.R_below (vR HO_5.out) hb);have n1_:=Aside0.mk (Kd.V_lower (Kd.V_mono (ok':=fun k_ => (w.heap.size≤k_)) ho0 (fun k_ hk_ => Or.elim hk_ (fun hs_ => ((HO_5.out).1 k_ hs_.symm)) (fun hn_ => (Nat.le_trans (below_size (vB HB.out)) hn_)))) (below_size (vB HB.out)));have n2_:=Aside0.mk (below_step (vB HB.out) hb);clear HO_5;clear HB;have HO_5:=n0_;have HO171:=n1_;have HB:=n2_;clear n0_ n1_ n2_;(try clear hb);(try clear hb2);(try clear hk);(try clear hi);(try clear ho0)))
    repeat (go_quiet (first | (go_at_call 85;(with_reducible refine (sconceref03_trim.calls k1 (fun k_ => some k_ = (.slice Ao10 x5_1.length co10:Value).ownBlock) _ _ x5_1 t169 _ ?side1 A9.out).mono ?_);(case side1 => exact Kd.R_V (Kd.R_tight rfl (HO_5.out)));rintro e w11 ⟨v170,rfl,ho0,hb⟩;have n0_:=Aside0.mk (Kd.R_below (vR HO_5.out) hb);have n1_:=Aside0.mk (Kd.V_lower (Kd.V_mono (ok':=fun k_ => (w.heap.size≤k_)) ho0 (fun k_ hk_ => Or.elim hk_ (fun hs_ => ((HO_5.out).1 k_ hs_.symm)) (fun hn_ => (Nat.le_trans (below_size (vB HB.out)) hn_)))) (below_size (vB HB.out)));have n2_:=Aside0.mk (below_step (vB HB.out) hb);clear HO_5;clear HB;have HO_5:=n0_;have HO171:=n1_;have HB:=n2_;clear n0_ n1_ n2_;(try clear hb);(try clear hb2);(try clear hk);(try clear hi);(try clear ho0)));try go_wp2_with (first | (go_at_call 85;(with_reducible refine (sconceref03_trim.calls k1 (fun k_ => some k_ = (.slice Ao10 x5_1.length co10:Value).ownBlock) _ _ x5_1 t169 _ ?side1 A9.out).mono ?_);(case side1 => exact Kd.R_V (Kd.R_tight rfl (HO_5.out)));rintro e w11 ⟨v170,rfl,ho0,hb⟩;have n0_:=Aside0.mk (Kd.R_below (vR HO_5.out) hb);have n1_:=Aside0.mk (Kd.V_lower (Kd.V_mono (ok':=fun k_ => (w.heap.size≤k_)) ho0 (fun k_ hk_ => Or.elim hk_ (fun hs_ => ((HO_5.out).1 k_ hs_.symm)) (fun hn_ => (Nat.le_trans (below_size (vB HB.out)) hn_)))) (below_size (vB HB.out)));have n2_:=Aside0.mk (below_step (vB HB.out) hb);clear HO_5;clear HB;have HO_5:=n0_;have HO171:=n1_;have HB:=n2_;clear n0_ n1_ n2_;(try clear hb);(try clear hb2);(try clear hk);(try clear hi);(try clear ho0))))
    go_ret
    exact ⟨_,by first | rfl | (simp [errW_none,errW_some] <;> rfl) | (simp [*,errW_none,errW_some] <;> rfl),by (with_reducible repeat (first | apply Kd.V_alloc | apply Kd.V_drewN | apply Kd.V_drew));exact HO171.out,by repeat (first | (with_reducible first | exact HB.out | apply below_alloc | apply pw_below_drewN | apply below_drew1) | exact HB.out)⟩
def sconceref03_Cmp.l0:Nat→List Int→List Int→Int→Option (Int)
 | 0,_,_,_ => none
 | k + 1,x0,x1,x5 => if x5 ≥ 0 then (if 0≤x5 then (if x5 < (x0.length:Int) then (if x5 < (x1.length:Int) then (if (rd x0 x5) = (rd x1 x5) then (sconceref03_Cmp.l0 k x0 x1 (wrap64 (x5 - 1))) else (if (rd x0 x5) < (rd x1 x5) then (some (-1)) else (some 1))) else (none)) else (none)) else (none)) else (some 0)
def sconceref03_Cmp.f (k:Nat) (l0:List Int) (l1:List Int):Option (Int):=if (l0.length:Int) = (l1.length:Int) then (sconceref03_Cmp.l0 k l0 l1 (wrap64 ((l0.length:Int) - 1))) else (if (l0.length:Int) < (l1.length:Int) then (some (-1)) else (some 1))
theorem sconceref03_Cmp.mono_l:∀ k,(∀ y0 y1 y2,LeO (sconceref03_Cmp.l0 k y0 y1 y2) (sconceref03_Cmp.l0 (k + 1) y0 y1 y2))
 | 0 => fun _ _ _ r h => by simp [sconceref03_Cmp.l0] at h
 | k + 1 => by
  have ih0:=sconceref03_Cmp.mono_l k
  ·
   intro y0 y1 y2
   unfold sconceref03_Cmp.l0
   repeat' first
   | (with_reducible exact ih0 _ _ _)
   | (with_reducible exact LeO.refl _)
   | (with_reducible exact LeO.none _)
   | (with_reducible refine LeO.ite ?_ ?_)
   | (with_reducible refine LeO.bind ?_ (fun _ => ?_))
   | exact ih0 _ _ _
   | exact LeO.none _
   | refine LeO.ite ?_ ?_
   | refine LeO.bind ?_ (fun _ => ?_)
theorem sconceref03_Cmp.mono:∀ a0 a1 k,LeO (sconceref03_Cmp.f k a0 a1) (sconceref03_Cmp.f (k + 1) a0 a1):=by
 intro a0 a1 k
 have ih0:=sconceref03_Cmp.mono_l k
 unfold sconceref03_Cmp.f
 repeat' first
   | (with_reducible exact ih0 _ _ _)
   | (with_reducible exact LeO.refl _)
   | (with_reducible exact LeO.none _)
   | (with_reducible refine LeO.ite ?_ ?_)
   | (with_reducible refine LeO.bind ?_ (fun _ => ?_))
   | exact ih0 _ _ _
   | exact LeO.none _
   | refine LeO.ite ?_ ?_
   | refine LeO.bind ?_ (fun _ => ?_)
theorem sconceref03_Cmp.calls (k:Nat) (A0:Option Addr) (c0:Nat) (l0:List Int) (A1:Option Addr) (c1:Nat) (l1:List Int) (r:Int) (w:World) (hr0:Kd.C (Kd.int .u32) w A0 l0.length l0) (hc0:l0.length≤c0) (hr1:Kd.C (Kd.int .u32) w A1 l1.length l1) (hc1:l1.length≤c1) (h:sconceref03_Cmp.f k l0 l1 = some r) :
  Calls Try.prog 60 #[.slice A0 l0.length c0,.slice A1 l1.length c1] w fun e w' => e = .returned (.int .i64 r)∧Drawn0 w w':=by
 have HR0:=Aside0.mk hr0
 have HC0:=Aside0.mk hc0
 clear hr0 hc0
 have HR1:=Aside0.mk hr1
 have HC1:=Aside0.mk hc1
 clear hr1 hc1
 have H:(if (l0.length:Int) = (l1.length:Int) then (sconceref03_Cmp.l0 k l0 l1 (wrap64 ((l0.length:Int) - 1))) else (if (l0.length:Int) < (l1.length:Int) then (some (-1)) else (some 1))) = some r:=h
 clear h
 by_cases c3:(l0.length:Int) = (l1.length:Int)
 ·
  rw [if_pos c3] at H
  have c3b0:((l0.length:Int) == (l1.length:Int)) = true:=beq_iff_eq.mpr c3
  have c3b1:((l0.length:Int) != (l1.length:Int)) = false:=bne_eq_false_iff_eq.mpr c3
  have c3b2:(l0.length == l1.length) = true:=by first | simpa using c3 | (simp at c3 ⊢;omega)
  clear c3
  have H':=Aside0.mk H
  clear H
  go_enter Try.func60,Try.ntmps60
  go_wp2
  repeat (go_quiet (fail);try go_wp2)
  go_loopg [5] k (fun kq v5 w' => ∃ (x5_1:Int),v5 = .int .i64 x5_1∧Aside0 (sconceref03_Cmp.l0 kq l0 l1 x5_1 = some r)∧Aside0 (kq≤k)∧Drawn0 w w')
  case atStart => exact ⟨(wrap64 ((l0.length:Int) - 1)),(by first | rfl | (simp;done) | (simp [*];done)),H',⟨Nat.le_refl _⟩,by repeat (first | exact Drawn0.refl _ | apply Drawn0.step)⟩
  case round =>
   clear H'
   try clear c1
   try clear p2
   try clear c3
   try clear c3b0
   try clear c3b1
   try clear c3b2
   obtain ⟨x5_1,rfl,HA,HK1,⟨m1,rfl⟩⟩:=hrel
   cases gk with
   | zero => exact absurd HA.out (by simp [sconceref03_Cmp.l0])
   | succ k1 =>
    have H:=HA.out
    clear HA
    simp only [sconceref03_Cmp.l0] at H
    by_cases c4:x5_1 ≥ 0
    ·
     rw [if_pos c4] at H
     have c4b0:decide (0≤x5_1) = true:=decide_eq_true c4
     clear c4
     by_cases c5:0≤x5_1
     ·
      rw [if_pos c5] at H
      have c5b0:decide (0≤x5_1) = true:=decide_eq_true c5
      clear c5
      by_cases c6:x5_1 < (l0.length:Int)
      ·
       rw [if_pos c6] at H
       have c6b0:decide (x5_1 < (l0.length:Int)) = true:=decide_eq_true c6
       clear c6
       by_cases c7:x5_1 < (l1.length:Int)
       ·
        rw [if_pos c7] at H
        have c7b0:decide (x5_1 < (l1.length:Int)) = true:=decide_eq_true c7
        clear c7
        by_cases c8:(rd l0 x5_1) = (rd l1 x5_1)
        ·
         rw [if_pos c8] at H
         have c8b0:((rd l0 x5_1) == (rd l1 x5_1)) = true:=beq_iff_eq.mpr c8
         have c8b1:((rd l0 x5_1) != (rd l1 x5_1)) = false:=bne_eq_false_iff_eq.mpr c8
         clear c8
         have H':=Aside0.mk H
         clear H
         have p172:0≤(x5_1:Int):=of_decide_eq_true vD
         have q172:x5_1 < (l0.length:Int):=of_decide_eq_true vD
         obtain ⟨ad172,e172,hx172_0⟩:=Kd.at_int HR0.out x5_1 p172 q172
         cases e172
         replace p172:=eq_true p172
         replace q172:=eq_true q172
         have p173:0≤(x5_1:Int):=of_decide_eq_true vD
         have q173:x5_1 < (l1.length:Int):=of_decide_eq_true vD
         obtain ⟨ad173,e173,hx173_0⟩:=Kd.at_int HR1.out x5_1 p173 q173
         cases e173
         replace p173:=eq_true p173
         replace q173:=eq_true q173
         go_wp2
         repeat (go_quiet (fail);try go_wp2)
         go_roundg k1
         case measure => have:=HK1.out;omega
         case rel => exact ⟨(wrap64 (x5_1 - 1)),(by first | rfl | (simp;done) | (simp [*];done)),H',⟨by have:=HK1.out;omega⟩,by repeat (first | exact Drawn0.refl _ | apply Drawn0.step)⟩
        ·
         rw [if_neg c8] at H
         have c8b0:((rd l0 x5_1) == (rd l1 x5_1)) = false:=beq_eq_false_iff_ne.mpr c8
         have c8b1:((rd l0 x5_1) != (rd l1 x5_1)) = true:=bne_iff_ne.mpr c8
         by_cases c9:(rd l0 x5_1) < (rd l1 x5_1)
         ·
          rw [if_pos c9] at H
          have c9b0:decide ((rd l0 x5_1) < (rd l1 x5_1)) = true:=decide_eq_true c9
          clear c9
          obtain rfl:=Option.some.inj H
          have p172:0≤(x5_1:Int):=of_decide_eq_true vD
          have q172:x5_1 < (l0.length:Int):=of_decide_eq_true vD
          obtain ⟨ad172,e172,hx172_0⟩:=Kd.at_int HR0.out x5_1 p172 q172
          cases e172
          replace p172:=eq_true p172
          replace q172:=eq_true q172
          have p173:0≤(x5_1:Int):=of_decide_eq_true vD
          have q173:x5_1 < (l1.length:Int):=of_decide_eq_true vD
          obtain ⟨ad173,e173,hx173_0⟩:=Kd.at_int HR1.out x5_1 p173 q173
          cases e173
          replace p173:=eq_true p173
          replace q173:=eq_true q173
          have p174:0≤(x5_1:Int):=of_decide_eq_true vD
          have q174:x5_1 < (l0.length:Int):=of_decide_eq_true vD
          obtain ⟨ad174,e174,hx174_0⟩:=Kd.at_int HR0.out x5_1 p174 q174
          obtain rfl:ad172 = ad174:=(by injection e174)
          replace p174:=eq_true p174
          replace q174:=eq_true q174
          have p175:0≤(x5_1:Int):=of_decide_eq_true vD
          have q175:x5_1 < (l1.length:Int):=of_decide_eq_true vD
          obtain ⟨ad175,e175,hx175_0⟩:=Kd.at_int HR1.out x5_1 p175 q175
          obtain rfl:ad173 = ad175:=(by injection e175)
          replace p175:=eq_true p175
          replace q175:=eq_true q175
          go_wp2
          repeat (go_quiet (fail);try go_wp2)
          go_ret
          exact ⟨by first | rfl | (simp;done) | (simp [*];done),by repeat (first | exact Drawn0.refl _ | apply Drawn0.step)⟩
         ·
          rw [if_neg c9] at H
          have c9b0:decide ((rd l0 x5_1) < (rd l1 x5_1)) = false:=decide_eq_false c9
          clear c9
          obtain rfl:=Option.some.inj H
          have p172:0≤(x5_1:Int):=of_decide_eq_true vD
          have q172:x5_1 < (l0.length:Int):=of_decide_eq_true vD
          obtain ⟨ad172,e172,hx172_0⟩:=Kd.at_int HR0.out x5_1 p172 q172
          cases e172
          replace p172:=eq_true p172
          replace q172:=eq_true q172
          have p173:0≤(x5_1:Int):=of_decide_eq_true vD
          have q173:x5_1 < (l1.length:Int):=of_decide_eq_true vD
          obtain ⟨ad173,e173,hx173_0⟩:=Kd.at_int HR1.out x5_1 p173 q173
          cases e173
          replace p173:=eq_true p173
          replace q173:=eq_true q173
          have p174:0≤(x5_1:Int):=of_decide_eq_true vD
          have q174:x5_1 < (l0.length:Int):=of_decide_eq_true vD
          obtain ⟨ad174,e174,hx174_0⟩:=Kd.at_int HR0.out x5_1 p174 q174
          obtain rfl:ad172 = ad174:=(by injection e174)
          replace p174:=eq_true p174
          replace q174:=eq_true q174
          have p175:0≤(x5_1:Int):=of_decide_eq_true vD
          have q175:x5_1 < (l1.length:Int):=of_decide_eq_true vD
          obtain ⟨ad175,e175,hx175_0⟩:=Kd.at_int HR1.out x5_1 p175 q175
          obtain rfl:ad173 = ad175:=(by injection e175)
          replace p175:=eq_true p175
          replace q175:=eq_true q175
          go_wp2
          repeat (go_quiet (fail);try go_wp2)
          go_ret
          exact ⟨by first | rfl | (simp;done) | (simp [*];done),by repeat (first | exact Drawn0.refl _ | apply Drawn0.step)⟩
       ·
        rw [if_neg c7] at H
        exact absurd H (by simp)
      ·
       rw [if_neg c6] at H
       exact absurd H (by simp)
     ·
      rw [if_neg c5] at H
      exact absurd H (by simp)
    ·
     rw [if_neg c4] at H
     have c4b0:decide (0≤x5_1) = false:=decide_eq_false c4
     clear c4
     obtain rfl:=Option.some.inj H
     go_wp2
     repeat (go_quiet (fail);try go_wp2)
     go_ret
     exact ⟨by first | rfl | (simp;done) | (simp [*];done),by repeat (first | exact Drawn0.refl _ | apply Drawn0.step)⟩
 ·
  rw [if_neg c3] at H
  have c3b0:((l0.length:Int) == (l1.length:Int)) = false:=beq_eq_false_iff_ne.mpr c3
  have c3b1:((l0.length:Int) != (l1.length:Int)) = true:=bne_iff_ne.mpr c3
  have c3b2:(l0.length == l1.length) = false:=by first | simpa using c3 | (simp at c3 ⊢;omega)
  by_cases c10:(l0.length:Int) < (l1.length:Int)
  ·
   rw [if_pos c10] at H
   have c10b0:decide ((l0.length:Int) < (l1.length:Int)) = true:=decide_eq_true c10
   have c10b1:decide (l0.length < l1.length) = true:=decide_eq_true (Int.ofNat_lt.mp c10)
   clear c10
   obtain rfl:=Option.some.inj H
   go_enter Try.func60,Try.ntmps60
   go_wp2
   repeat (go_quiet (fail);try go_wp2)
   go_ret
   exact ⟨by first | rfl | (simp;done) | (simp [*];done),by repeat (first | exact Drawn0.refl _ | apply Drawn0.step)⟩
  ·
   rw [if_neg c10] at H
   have c10b0:decide ((l0.length:Int) < (l1.length:Int)) = false:=decide_eq_false c10
   have c10b1:decide (l0.length < l1.length) = false:=decide_eq_false (fun h => c10 (Int.ofNat_lt.mpr h))
   clear c10
   obtain rfl:=Option.some.inj H
   go_enter Try.func60,Try.ntmps60
   go_wp2
   repeat (go_quiet (fail);try go_wp2)
   go_ret
   exact ⟨by first | rfl | (simp;done) | (simp [*];done),by repeat (first | exact Drawn0.refl _ | apply Drawn0.step)⟩
def sconceref03_Nat.l0:Nat→List Int→List Int→Int→Int→Option (List Int)
 | 0,_,_,_,_ => none
 | k + 1,x0,x5,x11,x12 => if x12 < x11 then ((sconceref03_digit.f x0 (wrap64 (2 * x12))).bind fun t179 => ((sconceref03_digit.f x0 (wrap64 ((wrap64 (2 * x12)) + 1))).bind fun t180 => (if 0≤x12 then (if x12 < (x5.length:Int) then (sconceref03_Nat.l0 k x0 (x5.set (x12:Int).toNat (Go.bits .or .u64 (IntKind.u64.wrap (t179)) (IntKind.u64.wrap ((IntKind.u64.wrap (t180)) * 4294967296)))) x11 (wrap64 (x12 + 1))) else (none)) else (none)))) else (some x5)
def sconceref03_Nat.f (k:Nat) (l0:List Int) (a1:Int):Option (List Int):=if 0≤(mx a1 0) then (if (mx a1 0:Int).toNat≤35184372088832 then ((some (List.replicate (mx a1 0:Int).toNat 0:List Int)).bind fun y176 => (sconceref03_Nat.l0 k l0 y176 (y176.length:Int) 0)) else (none)) else (none)
theorem sconceref03_Nat.mono_l:∀ k,(∀ y0 y1 y2 y3,LeO (sconceref03_Nat.l0 k y0 y1 y2 y3) (sconceref03_Nat.l0 (k + 1) y0 y1 y2 y3))
 | 0 => fun _ _ _ _ r h => by simp [sconceref03_Nat.l0] at h
 | k + 1 => by
  have ih0:=sconceref03_Nat.mono_l k
  ·
   intro y0 y1 y2 y3
   unfold sconceref03_Nat.l0
   repeat' first
   | (with_reducible exact ih0 _ _ _ _)
   | (with_reducible exact LeO.refl _)
   | (with_reducible exact LeO.none _)
   | (with_reducible refine LeO.ite ?_ ?_)
   | (with_reducible refine LeO.bind ?_ (fun _ => ?_))
   | exact ih0 _ _ _ _
   | exact LeO.none _
   | refine LeO.ite ?_ ?_
   | refine LeO.bind ?_ (fun _ => ?_)
theorem sconceref03_Nat.mono:∀ a0 a1 k,LeO (sconceref03_Nat.f k a0 a1) (sconceref03_Nat.f (k + 1) a0 a1):=by
 intro a0 a1 k
 have ih0:=sconceref03_Nat.mono_l k
 unfold sconceref03_Nat.f
 repeat' first
   | (with_reducible exact ih0 _ _ _ _)
   | (with_reducible exact LeO.refl _)
   | (with_reducible exact LeO.none _)
   | (with_reducible refine LeO.ite ?_ ?_)
   | (with_reducible refine LeO.bind ?_ (fun _ => ?_))
   | exact ih0 _ _ _ _
   | exact LeO.none _
   | refine LeO.ite ?_ ?_
   | refine LeO.bind ?_ (fun _ => ?_)
theorem sconceref03_Nat.calls (k:Nat) (A0:Option Addr) (c0:Nat) (l0:List Int) (a1:Int) (r:List Int) (w:World) (hr0:Kd.C (Kd.int .u32) w A0 l0.length l0) (hc0:l0.length≤c0) (h:sconceref03_Nat.f k l0 a1 = some r) :
  Calls Try.prog 67 #[.slice A0 l0.length c0,.int .i64 a1] w fun e w' => ∃ v0_:Value,e = .returned (v0_)∧Kd.R (Kd.int .u64) 24 w' w.heap.size (fun _ => True) v0_ r∧Below w.heap.size w w':=by
 have HR0:=Aside0.mk hr0
 have HC0:=Aside0.mk hc0
 clear hr0 hc0
 have HB:=Aside0.mk (Below.refl w.heap.size w)
 have H:(if 0≤(mx a1 0) then (if (mx a1 0:Int).toNat≤35184372088832 then ((some (List.replicate (mx a1 0:Int).toNat 0:List Int)).bind fun y176 => (sconceref03_Nat.l0 k l0 y176 (y176.length:Int) 0)) else (none)) else (none)) = some r:=h
 clear h
 obtain ⟨ji3,hji3⟩:∃ j_:Int,(mx a1 0) = j_:=⟨_,rfl⟩
 replace H:(if 0≤(ji3) then (if (ji3:Int).toNat≤35184372088832 then ((some (List.replicate (ji3:Int).toNat 0:List Int)).bind fun y176 => (sconceref03_Nat.l0 k l0 y176 (y176.length:Int) 0)) else (none)) else (none)) = some r:=by first | (rw [hji3] at H;exact H) | (simp only [hji3] at H ⊢;exact H)
 (try (have hji3l:0≤ji3:=by (rw [← hji3];unfold mx;(repeat' split) <;> omega)))
 (try (have hji3m:0≤ji3:=by omega))
 have hji3_:(if a1 < 0 then 0 else a1) = ji3:=hji3
 by_cases c4:0≤(ji3)
 ·
  rw [if_pos c4] at H
  have c4b0:=eq_true c4
  have c4b1:decide (0≤(ji3)) = true:=decide_eq_true c4
  clear c4
  by_cases c5:(ji3:Int).toNat≤35184372088832
  ·
   rw [if_pos c5] at H
   have c5b0:=eq_true c5
   have c5b1:decide ((ji3:Int).toNat≤35184372088832) = true:=decide_eq_true c5
   clear c5
   obtain ⟨y176,hy176⟩:∃ y_:List Int,y_ = (List.replicate (ji3:Int).toNat 0):=⟨_,rfl⟩
   replace H:(sconceref03_Nat.l0 k l0 y176 (y176.length:Int) 0) = some r:=by first | (rw [hy176];with_reducible exact H) | (have H2_:=(Option.bind_some _ _).symm.trans H;rw [hy176];with_reducible exact H2_) | (have H2_:=(Option.bind_some _ _).symm.trans H;with_reducible exact H2_) | with_reducible exact H | (rw [hy176];exact H) | exact H
   have Ny176:=Aside0.mk hy176
   clear hy176
   have H':=Aside0.mk H
   clear H
   go_enter Try.func67,Try.ntmps67
   go_wp2_with (first | ((with_reducible refine gate_dst (N:=9) rfl ?_);refine Kd.R_make (Kd.int .u64) _ 24 rfl (N:=9) rfl 23 _ _ rfl ji3 rfl rfl Try.underlying23 (.int .u64 0) 8 info24 rfl (by decide) (by omega) 0 (ok:=fun _ => True) (okp:=fun _ => True) rfl (fun _ hk => hk) trivial (of_decide_eq_true vD) (Nat.le_trans (Nat.mul_le_mul_right _ (of_decide_eq_true vD:ji3.toNat≤35184372088832)) (by omega)) (Below.refl _ _) (Nat.le_refl _) ?_;intro v177 w6 ho7 hb hg_ hnew_;clear hg_ hnew_;(first | rw [← Ny176.out] at ho7 | (simp only [Int.reduceToNat] at ho7;rw [← Ny176.out] at ho7));have n0_:=Aside0.mk (Kd.R_lower ho7 (below_size (vB HB.out)));have n1_:=Aside0.mk (below_step (vB HB.out) hb);clear HB;have HO178:=n0_;have HB:=n1_;clear n0_ n1_;clear hb ho7;obtain ⟨Ao8,co8,eo8⟩:=Kd.R_slice HO178.out;subst eo8))
   go_loopg [12] k (fun kq v12 w' => ∃ (x5_1:List Int) (x12_1:Int),v12 = .int .i64 x12_1∧Aside0 (sconceref03_Nat.l0 kq l0 x5_1 (y176.length:Int) x12_1 = some r)∧Aside0 (kq≤k)∧Aside0 (Kd.R (Kd.int .u64) 24 w' w.heap.size (fun _ => True) (.slice Ao8 y176.length co8) x5_1)∧Aside0 (Below w.heap.size w w'))
   case atStart => exact ⟨(y176),(0),(by first | rfl | (simp;done) | (simp [*];done)),H',⟨Nat.le_refl _⟩,⟨by (with_reducible repeat (first | apply Kd.R_alloc | apply Kd.R_drewN | apply Kd.R_drew));exact HO178.out⟩,⟨by repeat (first | (with_reducible first | exact HB.out | apply below_alloc | apply pw_below_drewN | apply below_drew1) | exact HB.out)⟩⟩
   case round =>
    clear H'
    try clear p2
    try clear c4
    try clear c4b0
    try clear c4b1
    try clear c5
    try clear c5b0
    try clear c5b1
    try clear c6
    obtain ⟨x5_1,x12_1,rfl,HA,HK1,HO_5,HB⟩:=hrel
    have hl5_1:=(Kd.R_reads' HO_5.out).1
    rw [hl5_1] at HO_5
    (try simp only [hl5_1])
    cases gk with
    | zero => exact absurd HA.out (by simp [sconceref03_Nat.l0])
    | succ k1 =>
     have H:=HA.out
     clear HA
     simp only [sconceref03_Nat.l0] at H
     by_cases c9:x12_1 < (y176.length:Int)
     ·
      rw [if_pos c9] at H
      have c9b0:decide (x12_1 < (y176.length:Int)) = true:=decide_eq_true c9
      (try (have c9b0L0:=c9b0;rw [hl5_1] at c9b0L0))
      clear c9
      replace H:=Option.bind_eq_some_iff.mp H
      obtain ⟨t179,A100,H⟩:=H
      replace H:((sconceref03_digit.f l0 (wrap64 ((wrap64 (2 * x12_1)) + 1))).bind fun t180 => (if 0≤x12_1 then (if x12_1 < (x5_1.length:Int) then (sconceref03_Nat.l0 k1 l0 (x5_1.set (x12_1:Int).toNat (Go.bits .or .u64 (IntKind.u64.wrap (t179)) (IntKind.u64.wrap ((IntKind.u64.wrap (t180)) * 4294967296)))) (y176.length:Int) (wrap64 (x12_1 + 1))) else (none)) else (none))) = some r:=H
      have A10:=Aside0.mk A100
      clear A100
      replace H:=Option.bind_eq_some_iff.mp H
      obtain ⟨t180,A110,H⟩:=H
      replace H:(if 0≤x12_1 then (if x12_1 < (x5_1.length:Int) then (sconceref03_Nat.l0 k1 l0 (x5_1.set (x12_1:Int).toNat (Go.bits .or .u64 (IntKind.u64.wrap (t179)) (IntKind.u64.wrap ((IntKind.u64.wrap (t180)) * 4294967296)))) (y176.length:Int) (wrap64 (x12_1 + 1))) else (none)) else (none)) = some r:=H
      have A11:=Aside0.mk A110
      clear A110
      by_cases c12:0≤x12_1
      ·
       rw [if_pos c12] at H
       have c12b0:decide (0≤x12_1) = true:=decide_eq_true c12
       clear c12
       by_cases c13:x12_1 < (x5_1.length:Int)
       ·
        rw [if_pos c13] at H
        have c13b0:decide (x12_1 < (x5_1.length:Int)) = true:=decide_eq_true c13
        (try (have c13b0L0:=c13b0;rw [hl5_1] at c13b0L0))
        clear c13
        obtain ⟨y181,hy181⟩:∃ y_:List Int,y_ = (x5_1.set (x12_1:Int).toNat (Go.bits .or .u64 (IntKind.u64.wrap (t179)) (IntKind.u64.wrap ((IntKind.u64.wrap (t180)) * 4294967296)))):=⟨_,rfl⟩
        replace H:(sconceref03_Nat.l0 k1 l0 y181 (y176.length:Int) (wrap64 (x12_1 + 1))) = some r:=by first | (rw [hy181];with_reducible exact H) | (have H2_:=(Option.bind_some _ _).symm.trans H;rw [hy181];with_reducible exact H2_) | (have H2_:=(Option.bind_some _ _).symm.trans H;with_reducible exact H2_) | with_reducible exact H | (rw [hy181];exact H) | exact H
        have Ny181:=Aside0.mk hy181
        clear hy181
        have H':=Aside0.mk H
        clear H
        go_wp2_with (first | ((with_reducible refine gate_callee (f:=86) rfl ?_);refine goesL_ (some 20) rfl rfl Try.func86 (by kernel_rfl) rfl #[.slice A0 l0.length c0,.int .i64 (wrap64 (2 * x12_1))] rfl vA ?_;(with_reducible refine (sconceref03_digit.calls _ _ l0 (wrap64 (2 * x12_1)) t179 _ ?side1 ?side2 A10.out).mono ?_);(case side1 => repeat (first | exact (Kd.C_below HR0.out HB.out) | (with_reducible refine Kd.C_alloc ?_ _) | (with_reducible refine Kd.C_drewN ?_ _) | (with_reducible refine Kd.C_drew ?_)));(case side2 => exact HC0.out);rintro e w' ⟨rfl,⟨nd,rfl⟩⟩;refine ⟨_,rfl,?_⟩;(try (rw [drewN_self wr];generalize hq_:World.drewN wr _ = wr;have n0_:Aside0 (Kd.R (Kd.int .u64) 24 wr w.heap.size (fun _ => True) (.slice Ao8 x5_1.length co8) x5_1):=⟨by rw [← hq_];exact (vR HO_5.out)⟩;have n1_:Aside0 (Below w.heap.size w wr):=⟨by rw [← hq_];exact (vB HB.out)⟩;clear HO_5 HB hq_;have HO_5:=n0_;have HB:=n1_;clear n0_ n1_))) | ((with_reducible refine gate_callee (f:=86) rfl ?_);refine goesL_ (some 26) rfl rfl Try.func86 (by kernel_rfl) rfl #[.slice A0 l0.length c0,.int .i64 (wrap64 ((wrap64 (2 * x12_1)) + 1))] rfl vA ?_;(with_reducible refine (sconceref03_digit.calls _ _ l0 (wrap64 ((wrap64 (2 * x12_1)) + 1)) t180 _ ?side1 ?side2 A11.out).mono ?_);(case side1 => repeat (first | exact (Kd.C_below HR0.out HB.out) | (with_reducible refine Kd.C_alloc ?_ _) | (with_reducible refine Kd.C_drewN ?_ _) | (with_reducible refine Kd.C_drew ?_)));(case side2 => exact HC0.out);rintro e w' ⟨rfl,⟨nd,rfl⟩⟩;refine ⟨_,rfl,?_⟩;(try (rw [drewN_self wr];generalize hq_:World.drewN wr _ = wr;have n0_:Aside0 (Kd.R (Kd.int .u64) 24 wr w.heap.size (fun _ => True) (.slice Ao8 x5_1.length co8) x5_1):=⟨by rw [← hq_];exact (vR HO_5.out)⟩;have n1_:Aside0 (Below w.heap.size w wr):=⟨by rw [← hq_];exact (vB HB.out)⟩;clear HO_5 HB hq_;have HO_5:=n0_;have HB:=n1_;clear n0_ n1_));have p14:0≤(x12_1:Int):=of_decide_eq_true vD;have q14:(x12_1:Int) < ((x5_1.length:Int):Int):=of_decide_eq_true vD;obtain ⟨go14,co14,eo14,gb14,gl14,cl14,HG14⟩:=Kd.R_form HO_5.out (by omega);(first | cases eo14 | (injection eo14 with ea_ en_ ec_;(first | subst ea_ | (injection ea_ with ea_;subst ea_));subst ec_;clear en_));have GB14:=Aside0.mk gb14;have GG14:=Aside0.mk HG14;clear gb14 gl14 HG14;obtain ⟨hx14_0,hf14_0⟩:=Kd.R_celln 0 HO_5.out (x12_1:Int) p14 q14;replace p14:=eq_true p14;replace q14:=eq_true q14;obtain ⟨hy15_,hz15_⟩:=Kd.R_celln 0 HO_5.out (x12_1:Int) (of_decide_eq_true vD) (of_decide_eq_true vD);have HP15:=Kd.R_putg HO_5.out (x12_1:Int) (Go.bits .or .u64 (IntKind.u64.wrap (t179)) (IntKind.u64.wrap ((IntKind.u64.wrap (t180)) * 4294967296)))) | ((with_reducible refine gate_store (t:=24) (p:=30) rfl ?_);refine store_event (t:=24) (p:=30) (v:=?vo_w16) (w1:=(wr.setCell ⟨go14,(x12_1:Int).toNat,none⟩ (.int .u64 (Go.bits .or .u64 (IntKind.u64.wrap (t179)) (IntKind.u64.wrap ((IntKind.u64.wrap (t180)) * 4294967296)))))) ?hg ?ho ?hn ?hr ?_;(case ho => rfl);(case hg => rfl);(case hn => rfl);(case hr => first | (go_simp;done) | (go_simp;rfl));intro w16 hw;have hg:wr.grownBy w16 (some go14):=(by rw [hw];exact HP15.2);have hp_:Kd.R (Kd.int .u64) 24 w16 w.heap.size (fun _ => True) (.slice (some ⟨go14,0,none⟩) x5_1.length co8) y181:=(by rw [hw,Ny181.out];exact HP15.1);clear HP15;have n0_:=Aside0.mk (hp_);have n1_:=Aside0.mk ((by rw [hw];exact below_set (HB.out) GB14.out:Below w.heap.size w w16));clear HO_5;clear HB;have HO_5:=n0_;have HB:=n1_;clear n0_ n1_;clear hg hw hp_))
        (try simp only [← hl5_1])
        go_roundg k1
        case measure => have:=HK1.out;omega
        case rel => exact ⟨(y181),(wrap64 (x12_1 + 1)),(by first | rfl | (simp;done) | (simp [*];done)),H',⟨by have:=HK1.out;omega⟩,⟨by (try simp only [hl5_1]);(with_reducible repeat (first | apply Kd.R_alloc | apply Kd.R_drewN | apply Kd.R_drew));exact HO_5.out⟩,⟨by repeat (first | (with_reducible first | exact HB.out | apply below_alloc | apply pw_below_drewN | apply below_drew1) | exact HB.out)⟩⟩
       ·
        rw [if_neg c13] at H
        exact absurd H (by simp)
      ·
       rw [if_neg c12] at H
       exact absurd H (by simp)
     ·
      rw [if_neg c9] at H
      have c9b0:decide (x12_1 < (y176.length:Int)) = false:=decide_eq_false c9
      (try (have c9b0L0:=c9b0;rw [hl5_1] at c9b0L0))
      clear c9
      obtain rfl:=Option.some.inj H
      go_wp2
      go_ret
      exact ⟨_,by first | rfl | (simp [errW_none,errW_some] <;> rfl) | (simp only [← hji3];first | rfl | (simp [errW_none,errW_some] <;> rfl)) | (simp [*,errW_none,errW_some] <;> rfl),by (with_reducible repeat (first | apply Kd.R_alloc | apply Kd.R_drewN | apply Kd.R_drew));exact HO_5.out,by repeat (first | (with_reducible first | exact HB.out | apply below_alloc | apply pw_below_drewN | apply below_drew1) | exact HB.out)⟩
  ·
   rw [if_neg c5] at H
   exact absurd H (by simp)
 ·
  rw [if_neg c4] at H
  exact absurd H (by simp)
def sconceref03_Shr.l0:Nat→List Int→Int→List Int→Int→Option (List Int)
 | 0,_,_,_,_ => none
 | k + 1,x0,x1,x5,x6 => if x6 < (x0.length:Int) then (if 0≤x6 then ((sconceref03_digit.f x0 (wrap64 (x6 + 1))).bind fun t183 => (if 0≤(IntKind.u64.wrap (Int.tmod x1 32)) then (if x5.length < 35184372088832 then (sconceref03_Shr.l0 k x0 x1 (x5 ++ [(shr .u64 (Go.bits .or .u64 (IntKind.u64.wrap (rd x0 x6)) (IntKind.u64.wrap ((IntKind.u64.wrap (t183)) * 4294967296))) (IntKind.u64.wrap (Int.tmod x1 32))) % 4294967296]) (wrap64 (x6 + 1))) else (none)) else (none))) else (none)) else ((sconceref03_trim.f k x5).bind fun t187 => (some t187))
def sconceref03_Shr.f (k:Nat) (l0:List Int) (a1:Int):Option (List Int):=sconceref03_Shr.l0 k l0 a1 ([]:List Int) (wrap64 (Int.tdiv a1 32))
theorem sconceref03_Shr.calls (k:Nat) (A0:Option Addr) (c0:Nat) (l0:List Int) (a1:Int) (r:List Int) (w:World) (hr0:Kd.C (Kd.int .u32) w A0 l0.length l0) (hc0:l0.length≤c0) (h:sconceref03_Shr.f k l0 a1 = some r) :
  Calls Try.prog 68 #[.slice A0 l0.length c0,.int .i64 a1] w fun e w' => ∃ v0_:Value,e = .returned (v0_)∧Kd.V (Kd.int .u32) 83 w' w.heap.size (fun k_ => (w.heap.size≤k_)) v0_ r∧Below w.heap.size w w':=by
 have HR0:=Aside0.mk hr0
 have HC0:=Aside0.mk hc0
 clear hr0 hc0
 have HB:=Aside0.mk (Below.refl w.heap.size w)
 have H:(sconceref03_Shr.l0 k l0 a1 ([]:List Int) (wrap64 (Int.tdiv a1 32))) = some r:=h
 clear h
 have H':=Aside0.mk H
 clear H
 go_enter Try.func68,Try.ntmps68
 go_wp2
 repeat (go_quiet (fail);try go_wp2)
 go_loopg [5,6] k (fun kq v5 v6 w' => ∃ (x5_1:List Int) (x6_1:Int),v6 = .int .i64 x6_1∧Aside0 (sconceref03_Shr.l0 kq l0 a1 x5_1 x6_1 = some r)∧Aside0 (kq≤k)∧Aside0 (Kd.R (Kd.int .u32) 83 w' w.heap.size (fun k_ => (w.heap.size≤k_)) v5 x5_1)∧Aside0 (Below w.heap.size w w'))
 case atStart => exact ⟨(([]:List Int)),(wrap64 (Int.tdiv a1 32)),(by first | rfl | (simp;done) | (simp [*];done)),H',⟨Nat.le_refl _⟩,⟨by first | exact Kd.R_nil _ _ _ _ _ | exact Kd.N_nil _ _ _ _ _ | exact Kd.V_nil _ _ _ _ _ | exact Kd.Q_nil _ _ _ _ _ | exact Kd.S_nil _ _ _ _ _⟩,⟨by repeat (first | (with_reducible first | exact HB.out | apply below_alloc | apply pw_below_drewN | apply below_drew1) | exact HB.out)⟩⟩
 case round =>
  clear H'
  try clear p2
  obtain ⟨x5_1,x6_1,rfl,HA,HK1,HO_5,HB⟩:=hrel
  cases gk with
  | zero => exact absurd HA.out (by simp [sconceref03_Shr.l0])
  | succ k1 =>
   have H:=HA.out
   clear HA
   simp only [sconceref03_Shr.l0] at H
   by_cases c3:x6_1 < (l0.length:Int)
   ·
    rw [if_pos c3] at H
    have c3b0:decide (x6_1 < (l0.length:Int)) = true:=decide_eq_true c3
    clear c3
    by_cases c4:0≤x6_1
    ·
     rw [if_pos c4] at H
     have c4b0:decide (0≤x6_1) = true:=decide_eq_true c4
     clear c4
     replace H:=Option.bind_eq_some_iff.mp H
     obtain ⟨t183,A50,H⟩:=H
     replace H:(if 0≤(IntKind.u64.wrap (Int.tmod a1 32)) then (if x5_1.length < 35184372088832 then (sconceref03_Shr.l0 k1 l0 a1 (x5_1 ++ [(shr .u64 (Go.bits .or .u64 (IntKind.u64.wrap (rd l0 x6_1)) (IntKind.u64.wrap ((IntKind.u64.wrap (t183)) * 4294967296))) (IntKind.u64.wrap (Int.tmod a1 32))) % 4294967296]) (wrap64 (x6_1 + 1))) else (none)) else (none)) = some r:=H
     have A5:=Aside0.mk A50
     clear A50
     obtain ⟨ji6,hji6⟩:∃ j_:Int,(IntKind.u64.wrap (Int.tmod a1 32)) = j_:=⟨_,rfl⟩
     replace H:(if 0≤(ji6) then (if x5_1.length < 35184372088832 then (sconceref03_Shr.l0 k1 l0 a1 (x5_1 ++ [(shr .u64 (Go.bits .or .u64 (IntKind.u64.wrap (rd l0 x6_1)) (IntKind.u64.wrap ((IntKind.u64.wrap (t183)) * 4294967296))) (ji6)) % 4294967296]) (wrap64 (x6_1 + 1))) else (none)) else (none)) = some r:=by first | (rw [hji6] at H;exact H) | (simp only [hji6] at H ⊢;exact H)
     (try rw [hji6] at A5)
     by_cases c7:0≤(ji6)
     ·
      rw [if_pos c7] at H
      have c7b0:=eq_true c7
      have c7b1:decide (0≤(ji6)) = true:=decide_eq_true c7
      clear c7
      obtain ⟨ji8,hji8⟩:∃ j_:Int,(shr .u64 (Go.bits .or .u64 (IntKind.u64.wrap (rd l0 x6_1)) (IntKind.u64.wrap ((IntKind.u64.wrap (t183)) * 4294967296))) (ji6)) = j_:=⟨_,rfl⟩
      replace H:(if x5_1.length < 35184372088832 then (sconceref03_Shr.l0 k1 l0 a1 (x5_1 ++ [(ji8) % 4294967296]) (wrap64 (x6_1 + 1))) else (none)) = some r:=by first | (rw [hji8] at H;exact H) | (simp only [hji8] at H ⊢;exact H)
      (try rw [hji8] at A5)
      have hji8_:((Go.bits .or .u64 (IntKind.u64.wrap (rd l0 x6_1)) (IntKind.u64.wrap ((IntKind.u64.wrap (t183)) * 4294967296))) / 2 ^ min (ji6).toNat 64) = ji8:=hji8
      have hji8z:(ji6)≤64→((Go.bits .or .u64 (IntKind.u64.wrap (rd l0 x6_1)) (IntKind.u64.wrap ((IntKind.u64.wrap (t183)) * 4294967296))) / 2 ^ (ji6).toNat) = ji8:=shr_small hji8
      by_cases c9:x5_1.length < 35184372088832
      ·
       rw [if_pos c9] at H
       have LMc9:=Aside0.mk c9
       clear c9
       obtain ⟨y184,hy184⟩:∃ y_:List Int,y_ = (x5_1 ++ [(ji8) % 4294967296]):=⟨_,rfl⟩
       replace H:(sconceref03_Shr.l0 k1 l0 a1 y184 (wrap64 (x6_1 + 1))) = some r:=by first | (rw [hy184];with_reducible exact H) | (have H2_:=(Option.bind_some _ _).symm.trans H;rw [hy184];with_reducible exact H2_) | (have H2_:=(Option.bind_some _ _).symm.trans H;with_reducible exact H2_) | with_reducible exact H | (rw [hy184];exact H) | exact H
       have Ny184:=Aside0.mk hy184
       clear hy184
       have H':=Aside0.mk H
       clear H
       have p182:0≤(x6_1:Int):=of_decide_eq_true vD
       have q182:x6_1 < (l0.length:Int):=of_decide_eq_true vD
       obtain ⟨ad182,e182,hx182_0⟩:=Kd.at_int HR0.out x6_1 p182 q182
       cases e182
       replace hx182_0:=(HB.out.cell (World.block_lt_of_cell? w _ hx182_0)).trans hx182_0
       replace p182:=eq_true p182
       replace q182:=eq_true q182
       go_wp2_with (first | (go_at_call 86;(with_reducible refine (sconceref03_digit.calls _ _ l0 (wrap64 (x6_1 + 1)) t183 _ ?side1 ?side2 A5.out).mono ?_);(case side1 => repeat (first | exact (Kd.C_below HR0.out HB.out) | (with_reducible refine Kd.C_alloc ?_ _) | (with_reducible refine Kd.C_drewN ?_ _) | (with_reducible refine Kd.C_drew ?_)));(case side2 => exact HC0.out);rintro e w' ⟨rfl,⟨nd,rfl⟩⟩;(try first | exact ⟨rfl,_,World.drewN_drewN _ _ _⟩ | exact ⟨rfl,_,Eq.trans (World.drewN_drewN _ _ _) (congrArg (World.drewN _) (Nat.add_assoc _ _ _))⟩)) | ((with_reducible refine gate_builtin (b:=.append) (xs:=#[.tmp 28,.tmp 35]) rfl ?_);at_builtin;refine Kd.R_append (Kd.int .u32) (w0:=w) w.heap.size rfl (.tmp 28) (.tmp 35) 48 83 (.int .u32 0) 4 rfl Try.underlying48 info83 rfl (by decide) (by omega) u5 x5_1 ((ji8) % 4294967296) [.int .u32 ((ji8) % 4294967296)] (fun k_ => (w.heap.size≤k_)) (fun _ => False) rfl rfl ?aP (fun _ hk => hk.elim) ?aF ?aO ?aB ?aS ?aL ?_;(case aP => exact rfl);(case aB => exact (vB HB.out));(case aF => exact (fun k_ hk => (Nat.le_trans (below_size (vB HB.out)) hk)));(case aO => exact (vR HO_5.out));(case aS => exact (below_size (vB HB.out)));(case aL => have:=LMc9.out;omega);intro v185 w10 ho hb hg hat;rw [← Ny184.out] at ho;have n0_:=Aside0.mk (hb);have n1_:=Aside0.mk (ho);clear HB;clear HO_5;have HB:=n0_;have HO186:=n1_;clear n0_ n1_;clear ho hb hg hat))
       repeat (go_quiet (first | (go_at_call 86;(with_reducible refine (sconceref03_digit.calls _ _ l0 (wrap64 (x6_1 + 1)) t183 _ ?side1 ?side2 A5.out).mono ?_);(case side1 => repeat (first | exact (Kd.C_below HR0.out HB.out) | (with_reducible refine Kd.C_alloc ?_ _) | (with_reducible refine Kd.C_drewN ?_ _) | (with_reducible refine Kd.C_drew ?_)));(case side2 => exact HC0.out);rintro e w' ⟨rfl,⟨nd,rfl⟩⟩;(try first | exact ⟨rfl,_,World.drewN_drewN _ _ _⟩ | exact ⟨rfl,_,Eq.trans (World.drewN_drewN _ _ _) (congrArg (World.drewN _) (Nat.add_assoc _ _ _))⟩)) | ((with_reducible refine gate_builtin (b:=.append) (xs:=#[.tmp 28,.tmp 35]) rfl ?_);at_builtin;refine Kd.R_append (Kd.int .u32) (w0:=w) w.heap.size rfl (.tmp 28) (.tmp 35) 48 83 (.int .u32 0) 4 rfl Try.underlying48 info83 rfl (by decide) (by omega) u5 x5_1 ((ji8) % 4294967296) [.int .u32 ((ji8) % 4294967296)] (fun k_ => (w.heap.size≤k_)) (fun _ => False) rfl rfl ?aP (fun _ hk => hk.elim) ?aF ?aO ?aB ?aS ?aL ?_;(case aP => exact rfl);(case aB => exact (vB HB.out));(case aF => exact (fun k_ hk => (Nat.le_trans (below_size (vB HB.out)) hk)));(case aO => exact (vR HO_5.out));(case aS => exact (below_size (vB HB.out)));(case aL => have:=LMc9.out;omega);intro v185 w10 ho hb hg hat;rw [← Ny184.out] at ho;have n0_:=Aside0.mk (hb);have n1_:=Aside0.mk (ho);clear HB;clear HO_5;have HB:=n0_;have HO186:=n1_;clear n0_ n1_;clear ho hb hg hat));try go_wp2_with (first | (go_at_call 86;(with_reducible refine (sconceref03_digit.calls _ _ l0 (wrap64 (x6_1 + 1)) t183 _ ?side1 ?side2 A5.out).mono ?_);(case side1 => repeat (first | exact (Kd.C_below HR0.out HB.out) | (with_reducible refine Kd.C_alloc ?_ _) | (with_reducible refine Kd.C_drewN ?_ _) | (with_reducible refine Kd.C_drew ?_)));(case side2 => exact HC0.out);rintro e w' ⟨rfl,⟨nd,rfl⟩⟩;(try first | exact ⟨rfl,_,World.drewN_drewN _ _ _⟩ | exact ⟨rfl,_,Eq.trans (World.drewN_drewN _ _ _) (congrArg (World.drewN _) (Nat.add_assoc _ _ _))⟩)) | ((with_reducible refine gate_builtin (b:=.append) (xs:=#[.tmp 28,.tmp 35]) rfl ?_);at_builtin;refine Kd.R_append (Kd.int .u32) (w0:=w) w.heap.size rfl (.tmp 28) (.tmp 35) 48 83 (.int .u32 0) 4 rfl Try.underlying48 info83 rfl (by decide) (by omega) u5 x5_1 ((ji8) % 4294967296) [.int .u32 ((ji8) % 4294967296)] (fun k_ => (w.heap.size≤k_)) (fun _ => False) rfl rfl ?aP (fun _ hk => hk.elim) ?aF ?aO ?aB ?aS ?aL ?_;(case aP => exact rfl);(case aB => exact (vB HB.out));(case aF => exact (fun k_ hk => (Nat.le_trans (below_size (vB HB.out)) hk)));(case aO => exact (vR HO_5.out));(case aS => exact (below_size (vB HB.out)));(case aL => have:=LMc9.out;omega);intro v185 w10 ho hb hg hat;rw [← Ny184.out] at ho;have n0_:=Aside0.mk (hb);have n1_:=Aside0.mk (ho);clear HB;clear HO_5;have HB:=n0_;have HO186:=n1_;clear n0_ n1_;clear ho hb hg hat)))
       go_roundg k1
       case measure => have:=HK1.out;omega
       case rel => exact ⟨(y184),(wrap64 (x6_1 + 1)),(by first | rfl | (simp;done) | (simp [*];done)),H',⟨by have:=HK1.out;omega⟩,⟨by (with_reducible repeat (first | apply Kd.R_alloc | apply Kd.R_drewN | apply Kd.R_drew));exact HO186.out⟩,⟨by repeat (first | (with_reducible first | exact HB.out | apply below_alloc | apply pw_below_drewN | apply below_drew1) | exact HB.out)⟩⟩
      ·
       rw [if_neg c9] at H
       exact absurd H (by simp)
     ·
      rw [if_neg c7] at H
      exact absurd H (by simp)
    ·
     rw [if_neg c4] at H
     exact absurd H (by simp)
   ·
    rw [if_neg c3] at H
    have c3b0:decide (x6_1 < (l0.length:Int)) = false:=decide_eq_false c3
    clear c3
    replace H:=Option.bind_eq_some_iff.mp H
    obtain ⟨t187,A110,H⟩:=H
    replace H:(some t187) = some r:=H
    have A11:=Aside0.mk A110
    clear A110
    obtain rfl:=Option.some.inj H
    obtain ⟨Ao12,co12,eo12⟩:=Kd.R_slice HO_5.out
    subst eo12
    go_wp2_with (first | (go_at_call 85;(with_reducible refine (sconceref03_trim.calls k1 (fun k_ => some k_ = (.slice Ao12 x5_1.length co12:Value).ownBlock) _ _ x5_1 t187 _ ?side1 A11.out).mono ?_);(case side1 => exact Kd.R_V (Kd.R_tight rfl (HO_5.out)));rintro e w13 ⟨v188,rfl,ho0,hb⟩;have n0_:=Aside0.mk (Kd.R_below (vR HO_5.out) hb);have n1_:=Aside0.mk (Kd.V_lower (Kd.V_mono (ok':=fun k_ => (w.heap.size≤k_)) ho0 (fun k_ hk_ => Or.elim hk_ (fun hs_ => ((HO_5.out).1 k_ hs_.symm)) (fun hn_ => (Nat.le_trans (below_size (vB HB.out)) hn_)))) (below_size (vB HB.out)));have n2_:=Aside0.mk (below_step (vB HB.out) hb);clear HO_5;clear HB;have HO_5:=n0_;have HO189:=n1_;have HB:=n2_;clear n0_ n1_ n2_;(try clear hb);(try clear hb2);(try clear hk);(try clear hi);(try clear ho0)))
    repeat (go_quiet (first | (go_at_call 85;(with_reducible refine (sconceref03_trim.calls k1 (fun k_ => some k_ = (.slice Ao12 x5_1.length co12:Value).ownBlock) _ _ x5_1 t187 _ ?side1 A11.out).mono ?_);(case side1 => exact Kd.R_V (Kd.R_tight rfl (HO_5.out)));rintro e w13 ⟨v188,rfl,ho0,hb⟩;have n0_:=Aside0.mk (Kd.R_below (vR HO_5.out) hb);have n1_:=Aside0.mk (Kd.V_lower (Kd.V_mono (ok':=fun k_ => (w.heap.size≤k_)) ho0 (fun k_ hk_ => Or.elim hk_ (fun hs_ => ((HO_5.out).1 k_ hs_.symm)) (fun hn_ => (Nat.le_trans (below_size (vB HB.out)) hn_)))) (below_size (vB HB.out)));have n2_:=Aside0.mk (below_step (vB HB.out) hb);clear HO_5;clear HB;have HO_5:=n0_;have HO189:=n1_;have HB:=n2_;clear n0_ n1_ n2_;(try clear hb);(try clear hb2);(try clear hk);(try clear hi);(try clear ho0)));try go_wp2_with (first | (go_at_call 85;(with_reducible refine (sconceref03_trim.calls k1 (fun k_ => some k_ = (.slice Ao12 x5_1.length co12:Value).ownBlock) _ _ x5_1 t187 _ ?side1 A11.out).mono ?_);(case side1 => exact Kd.R_V (Kd.R_tight rfl (HO_5.out)));rintro e w13 ⟨v188,rfl,ho0,hb⟩;have n0_:=Aside0.mk (Kd.R_below (vR HO_5.out) hb);have n1_:=Aside0.mk (Kd.V_lower (Kd.V_mono (ok':=fun k_ => (w.heap.size≤k_)) ho0 (fun k_ hk_ => Or.elim hk_ (fun hs_ => ((HO_5.out).1 k_ hs_.symm)) (fun hn_ => (Nat.le_trans (below_size (vB HB.out)) hn_)))) (below_size (vB HB.out)));have n2_:=Aside0.mk (below_step (vB HB.out) hb);clear HO_5;clear HB;have HO_5:=n0_;have HO189:=n1_;have HB:=n2_;clear n0_ n1_ n2_;(try clear hb);(try clear hb2);(try clear hk);(try clear hi);(try clear ho0))))
    go_ret
    exact ⟨_,by first | rfl | (simp [errW_none,errW_some] <;> rfl) | (simp [*,errW_none,errW_some] <;> rfl),by (with_reducible repeat (first | apply Kd.V_alloc | apply Kd.V_drewN | apply Kd.V_drew));exact HO189.out,by repeat (first | (with_reducible first | exact HB.out | apply below_alloc | apply pw_below_drewN | apply below_drew1) | exact HB.out)⟩
end Go.Proofs.Ytonpekldcnankaa.X
