/- Texts of the walk and of the plain laws, laid together by a program: Ow. -/
import Derived.Test.YtonpekldcnankaaZC14
set_option maxHeartbeats 8000000
set_option maxRecDepth 100000
namespace Go.Proofs.Ytonpekldcnankaa.X
open Go.RowKit Go.Proofs.YtonpekldcnankaaW.PrintWords Go.Proofs.YtonpekldcnankaaW.PrintLast Go.Proofs.YtonpekldcnankaaW.PrintMore
attribute [local go_sem] max2_int min2_int max_two min_two max_three min_three max_four min_four
set_option linter.unusedVariables false
set_option linter.unusedSimpArgs false
theorem trim_own (k base:Nat) (ok:Nat→Prop) (A0:Option Addr) (c0:Nat) (l0:List Int) (r:List Int) (w:World) (hs0:Kd.R (Kd.int .u32) 83 w base ok (.slice A0 l0.length c0) l0) (h:sconceref03_trim.f k l0 = some r) :
    Calls Try.prog 85 #[.slice A0 l0.length c0] w fun e w' => ∃ v0_:Value,e = .returned (v0_)∧Kd.R (Kd.int .u32) 83 w' base ok v0_ r∧Below w.heap.size w w':=by
  have HO0:=Aside0.mk hs0
  have HB:=Aside0.mk (Below.refl w.heap.size w)
  have H:(sconceref03_trim.l0 k l0) = some r:=h
  clear h
  have H':=Aside0.mk H
  clear H
  go_enter Try.func85,Try.ntmps85
  go_wp2
  go_loopg [0] k (fun kq v0 w' => ∃ (x0_1:List Int),Aside0 (sconceref03_trim.l0 kq x0_1 = some r)∧Aside0 (kq≤k)∧Aside0 (Kd.R (Kd.int .u32) 83 w' base ok v0 x0_1)∧Aside0 (Below w.heap.size w w'))
  case atStart => exact ⟨(l0),H',⟨Nat.le_refl _⟩,⟨by (with_reducible repeat (first | apply Kd.R_alloc | apply Kd.R_drewN | apply Kd.R_drew));exact HO0.out⟩,⟨by repeat (first | (with_reducible first | exact HB.out | apply below_alloc | apply pw_below_drewN | apply below_drew1) | exact HB.out)⟩⟩
  case round =>
    clear H'
    obtain ⟨x0_1,HA,HK1,HO_0,HB⟩:=hrel
    cases gk with
    | zero => exact absurd HA.out (by simp [sconceref03_trim.l0])
    | succ k1 =>
      have H:=HA.out
      clear HA
      simp only [sconceref03_trim.l0] at H
      by_cases c2:(x0_1.length:Int) > 0
      · rw [if_pos c2] at H
        have c2b0:decide (0 < (x0_1.length:Int)) = true:=decide_eq_true c2
        have c2b1:decide (0 < x0_1.length) = true:=decide_eq_true (by omega)
        clear c2
        obtain ⟨ji3,hji3⟩:∃ j_:Int,(wrap64 ((x0_1.length:Int) - 1)) = j_:=⟨_,rfl⟩
        replace H:(if 0≤(ji3) then (if (ji3) < (x0_1.length:Int) then (if (rd x0_1 (ji3)) = 0 then (if (ji3)≤(x0_1.length:Int) then (sconceref03_trim.l0 k1 (x0_1.take ((ji3):Int).toNat)) else (none)) else (some x0_1)) else (none)) else (none)) = some r:=by first | (rw [hji3] at H;exact H) | (simp only [hji3] at H ⊢;exact H)
        have hji3w:(IntKind.i64.wrap ((x0_1.length:Int) - 1)) = ji3:=(i64_w _).trans hji3
        by_cases c4:0≤(ji3)
        · rw [if_pos c4] at H
          have c4b0:decide (0≤(ji3)) = true:=decide_eq_true c4
          clear c4
          by_cases c5:(ji3) < (x0_1.length:Int)
          · rw [if_pos c5] at H
            have c5b0:decide ((ji3) < (x0_1.length:Int)) = true:=decide_eq_true c5
            clear c5
            by_cases c6:(rd x0_1 (ji3)) = 0
            · rw [if_pos c6] at H
              have c6b0:((rd x0_1 (ji3)) == 0) = true:=beq_iff_eq.mpr c6
              have c6b1:((rd x0_1 (ji3)) != 0) = false:=bne_eq_false_iff_eq.mpr c6
              clear c6
              have c7b0:=eq_true (of_decide_eq_true (by first | (with_reducible assumption) | assumption):0≤(ji3))
              by_cases c8:(ji3)≤(x0_1.length:Int)
              · rw [if_pos c8] at H
                have c8b0:=eq_true c8
                have c8b1:decide ((ji3)≤(x0_1.length:Int)) = true:=decide_eq_true c8
                clear c8
                obtain ⟨y120,hy120⟩:∃ y_:List Int,y_ = (x0_1.take ((ji3):Int).toNat):=⟨_,rfl⟩
                replace H:(sconceref03_trim.l0 k1 y120) = some r:=by first | (rw [hy120];with_reducible exact H) | (have H2_:=(Option.bind_some _ _).symm.trans H;rw [hy120];with_reducible exact H2_) | (have H2_:=(Option.bind_some _ _).symm.trans H;with_reducible exact H2_) | with_reducible exact H | (rw [hy120];exact H) | exact H
                have Ny120:=Aside0.mk hy120
                clear hy120
                have H':=Aside0.mk H
                clear H
                obtain ⟨Ao9,co9,eo9⟩:=Kd.R_slice HO_0.out
                subst eo9
                have p119:0≤((ji3):Int):=of_decide_eq_true (by first | (with_reducible assumption) | assumption)
                have q119:(ji3) < (x0_1.length:Int):=of_decide_eq_true (by first | (with_reducible assumption) | assumption)
                obtain ⟨ad119,e119,hx119_0⟩:=Kd.at_int (Kd.R_reads' HO_0.out).2.2 (ji3) p119 q119
                cases e119
                replace p119:=eq_true p119
                replace q119:=eq_true q119
                have q10:((ji3):Int)≤((x0_1.length:Int):Int):=of_decide_eq_true (by first | (with_reducible assumption) | assumption)
                obtain ⟨i010,hi010,_,hsz10,_⟩:=info_parts info83
                have hroom10:x0_1.length≤co9:=(Kd.R_reads' HO_0.out).2.1
                have hC10:=HO_0.out
                have hcut10:=cut_to (P:=Try.prog) 48 83 .i64 Try.underlying48 hi010 (some ad119) x0_1.length co9 (ji3) (of_decide_eq_true (by first | (with_reducible assumption) | assumption)) q10 hroom10
                have hr10:=Kd.R_take (m:=((ji3):Int).toNat) hC10 (by omega)
                have hy10:y120.length = ((ji3):Int).toNat:=(by rw [Ny120.out,List.length_take];omega)
                rw [← Ny120.out] at hr10
                rw [← hy10] at hr10 hcut10
                have HO124:=Aside0.mk hr10
                have HC124:=Aside0.mk (show y120.length≤co9 from by omega)
                clear hr10 hC10 hroom10 hi010 hsz10
                have KY10:=Aside0.mk hy10
                clear hy10
                replace q10:=eq_true q10
                go_wp2
                go_roundg k1
                case measure => have:=HK1.out;omega
                case rel => exact ⟨(y120),H',⟨by have:=HK1.out;omega⟩,⟨by (with_reducible repeat (first | apply Kd.R_alloc | apply Kd.R_drewN | apply Kd.R_drew));exact HO124.out⟩,⟨by repeat (first | (with_reducible first | exact HB.out | apply below_alloc | apply pw_below_drewN | apply below_drew1) | exact HB.out)⟩⟩
              · rw [if_neg c8] at H
                exact absurd H (by simp)
            · rw [if_neg c6] at H
              have c6b0:((rd x0_1 (ji3)) == 0) = false:=beq_eq_false_iff_ne.mpr c6
              have c6b1:((rd x0_1 (ji3)) != 0) = true:=bne_iff_ne.mpr c6
              obtain rfl:=Option.some.inj H
              obtain ⟨Ao11,co11,eo11⟩:=Kd.R_slice HO_0.out
              subst eo11
              have p119:0≤((ji3):Int):=of_decide_eq_true (by first | (with_reducible assumption) | assumption)
              have q119:(ji3) < (x0_1.length:Int):=of_decide_eq_true (by first | (with_reducible assumption) | assumption)
              obtain ⟨ad119,e119,hx119_0⟩:=Kd.at_int (Kd.R_reads' HO_0.out).2.2 (ji3) p119 q119
              cases e119
              replace p119:=eq_true p119
              replace q119:=eq_true q119
              go_wp2
              go_ret
              exact ⟨_,by first | rfl | (simp [errW_none,errW_some] <;> rfl) | (simp only [← hji3];first | rfl | (simp [errW_none,errW_some] <;> rfl)) | (simp [*,errW_none,errW_some] <;> rfl),by (with_reducible repeat (first | apply Kd.R_alloc | apply Kd.R_drewN | apply Kd.R_drew));exact HO_0.out,by repeat (first | (with_reducible first | exact HB.out | apply below_alloc | apply pw_below_drewN | apply below_drew1) | exact HB.out)⟩
          · rw [if_neg c5] at H
            exact absurd H (by simp)
        · rw [if_neg c4] at H
          exact absurd H (by simp)
      · rw [if_neg c2] at H
        have c2b0:decide (0 < (x0_1.length:Int)) = false:=decide_eq_false c2
        have c2b1:decide (0 < x0_1.length) = false:=decide_eq_false (by omega)
        clear c2
        obtain rfl:=Option.some.inj H
        obtain ⟨Ao12,co12,eo12⟩:=Kd.R_slice HO_0.out
        subst eo12
        go_wp2
        go_ret
        exact ⟨_,by first | rfl | (simp [errW_none,errW_some] <;> rfl) | (simp [*,errW_none,errW_some] <;> rfl),by (with_reducible repeat (first | apply Kd.R_alloc | apply Kd.R_drewN | apply Kd.R_drew));exact HO_0.out,by repeat (first | (with_reducible first | exact HB.out | apply below_alloc | apply pw_below_drewN | apply below_drew1) | exact HB.out)⟩
theorem Shl_own (k:Nat) (A0:Option Addr) (c0:Nat) (l0:List Int) (a1:Int) (r:List Int) (w:World) (hr0:Kd.C (Kd.int .u32) w A0 l0.length l0) (hc0:l0.length≤c0) (h:sconceref03_Shl.f k l0 a1 = some r) :
    Calls Try.prog 102 #[.slice A0 l0.length c0,.int .i64 a1] w fun e w' => ∃ v0_:Value,e = .returned (v0_)∧Kd.R (Kd.int .u32) 83 w' w.heap.size (fun k_ => (w.heap.size≤k_)) v0_ r∧Below w.heap.size w w':=by
  have HR0:=Aside0.mk hr0
  have HC0:=Aside0.mk hc0
  clear hr0 hc0
  have HB:=Aside0.mk (Below.refl w.heap.size w)
  have H:(if 0≤(wrap64 (Int.tdiv a1 32)) then (if (wrap64 (Int.tdiv a1 32))≤(wrap64 ((wrap64 ((wrap64 (Int.tdiv a1 32)) + (l0.length:Int))) + 1)) then (if (wrap64 ((wrap64 ((wrap64 (Int.tdiv a1 32)) + (l0.length:Int))) + 1):Int).toNat≤70368744177664 then (sconceref03_Shl.l0 k a1 (List.replicate (wrap64 (Int.tdiv a1 32):Int).toNat 0) 0 l0 (l0.length:Int) 0) else (none)) else (none)) else (none)) = some r:=h
  clear h
  obtain ⟨ji3,hji3⟩:∃ j_:Int,(wrap64 (Int.tdiv a1 32)) = j_:=⟨_,rfl⟩
  replace H:(if 0≤(ji3) then (if (ji3)≤(wrap64 ((wrap64 ((ji3) + (l0.length:Int))) + 1)) then (if (wrap64 ((wrap64 ((ji3) + (l0.length:Int))) + 1):Int).toNat≤70368744177664 then (sconceref03_Shl.l0 k a1 (List.replicate (ji3:Int).toNat 0) 0 l0 (l0.length:Int) 0) else (none)) else (none)) else (none)) = some r:=by first | (rw [hji3] at H;exact H) | (simp only [hji3] at H ⊢;exact H)
  have hji3w:(IntKind.i64.wrap (Int.tdiv a1 32)) = ji3:=(i64_w _).trans hji3
  by_cases c4:0≤(ji3)
  · rw [if_pos c4] at H
    have c4b0:=eq_true c4
    have c4b1:decide (0≤(ji3)) = true:=decide_eq_true c4
    clear c4
    by_cases c5:(ji3)≤(wrap64 ((wrap64 ((ji3) + (l0.length:Int))) + 1))
    · rw [if_pos c5] at H
      have c5b0:=eq_true c5
      have c5b1:decide ((ji3)≤(wrap64 ((wrap64 ((ji3) + (l0.length:Int))) + 1))) = true:=decide_eq_true c5
      by_cases c6:(wrap64 ((wrap64 ((ji3) + (l0.length:Int))) + 1):Int).toNat≤70368744177664
      · rw [if_pos c6] at H
        have c6b0:=eq_true c6
        have c6b1:decide ((wrap64 ((wrap64 ((ji3) + (l0.length:Int))) + 1):Int).toNat≤70368744177664) = true:=decide_eq_true c6
        obtain ⟨y194,hy194⟩:∃ y_:List Int,y_ = (List.replicate (ji3:Int).toNat 0):=⟨_,rfl⟩
        replace H:(sconceref03_Shl.l0 k a1 y194 0 l0 (l0.length:Int) 0) = some r:=by first | (rw [hy194];with_reducible exact H) | (have H2_:=(Option.bind_some _ _).symm.trans H;rw [hy194];with_reducible exact H2_) | (have H2_:=(Option.bind_some _ _).symm.trans H;with_reducible exact H2_) | with_reducible exact H | (rw [hy194];exact H) | exact H
        have Ny194:=Aside0.mk hy194
        clear hy194
        have H':=Aside0.mk H
        clear H
        go_enter Try.func102,Try.ntmps102
        go_wp2_with (first | ((with_reducible refine gate_dst (N:=17) rfl ?_);refine R_makec .u32 _ 83 rfl (N:=17) rfl 48 _ _ rfl ji3 (wrap64 ((wrap64 ((ji3) + (l0.length:Int))) + 1)) rfl rfl Try.underlying48 4 info83 (by omega) (ok:=fun _ => True) trivial (of_decide_eq_true (by first | (with_reducible assumption) | assumption)) (of_decide_eq_true (by first | (with_reducible assumption) | assumption)) (Nat.le_trans (Nat.mul_le_mul_right _ (of_decide_eq_true (by first | (with_reducible assumption) | assumption):(wrap64 ((wrap64 ((ji3) + (l0.length:Int))) + 1)).toNat≤70368744177664)) (by omega)) (Below.refl _ _) (Nat.le_refl _) ?_;intro v195 w7 ho8 hb hg_ hnew_;clear hg_ hnew_;(first | rw [← Ny194.out] at ho8 | (simp only [Int.reduceToNat] at ho8;rw [← Ny194.out] at ho8));have n0_:=Aside0.mk (Kd.R_lower (Kd.R_newM (M:=fun k_ => (w.heap.size≤k_)) ho8 (below_size (by repeat (first | (with_reducible first | exact HB.out | apply below_alloc | apply pw_below_drewN | apply below_drew1) | exact HB.out))) (fun k_ h_ => h_)) (below_size (by repeat (first | (with_reducible first | exact HB.out | apply below_alloc | apply pw_below_drewN | apply below_drew1) | exact HB.out))));have n1_:=Aside0.mk (below_step (by repeat (first | (with_reducible first | exact HB.out | apply below_alloc | apply pw_below_drewN | apply below_drew1) | exact HB.out)) hb);clear HB;have HO196:=n0_;have HB:=n1_;clear n0_ n1_;clear hb ho8))
        go_loopg [5,6,20] k (fun kq v5 v6 v20 w' => ∃ (x5_1:List Int) (x6_1:Int) (x20_1:Int),v6 = .int .u64 x6_1∧v20 = .int .i64 x20_1∧Aside0 (sconceref03_Shl.l0 kq a1 x5_1 x6_1 l0 (l0.length:Int) x20_1 = some r)∧Aside0 (kq≤k)∧Aside0 (Kd.R (Kd.int .u32) 83 w' w.heap.size (fun k_ => (w.heap.size≤k_)) v5 x5_1)∧Aside0 (Below w.heap.size w w'))
        case atStart => exact ⟨(y194),(0),(0),(by first | rfl | (simp;done) | (simp [*];done)),(by first | rfl | (simp;done) | (simp [*];done)),H',⟨Nat.le_refl _⟩,⟨by (with_reducible repeat (first | apply Kd.R_alloc | apply Kd.R_drewN | apply Kd.R_drew));exact Kd.R_mono HO196.out (fun _ hk => hk.1)⟩,⟨by repeat (first | (with_reducible first | exact HB.out | apply below_alloc | apply pw_below_drewN | apply below_drew1) | exact HB.out)⟩⟩
        case round =>
          clear H'
          try clear c1
          try clear p2
          try clear c4
          try clear c4b0
          try clear c4b1
          try clear c5
          try clear c5b0
          try clear c5b1
          try clear c6
          try clear c6b0
          try clear c6b1
          try clear p6
          obtain ⟨x5_1,x6_1,x20_1,rfl,rfl,HA,HK1,HO_5,HB⟩:=hrel
          cases gk with
          | zero => exact absurd HA.out (by simp [sconceref03_Shl.l0])
          | succ k1 =>
            have H:=HA.out
            clear HA
            simp only [sconceref03_Shl.l0] at H
            by_cases c9:x20_1 < (l0.length:Int)
            · rw [if_pos c9] at H
              have c9b0:decide (x20_1 < (l0.length:Int)) = true:=decide_eq_true c9
              clear c9
              by_cases c10:0≤x20_1
              · rw [if_pos c10] at H
                have c10b0:decide (0≤x20_1) = true:=decide_eq_true c10
                clear c10
                by_cases c11:x20_1 < (l0.length:Int)
                · rw [if_pos c11] at H
                  have c11b0:decide (x20_1 < (l0.length:Int)) = true:=decide_eq_true c11
                  clear c11
                  obtain ⟨ji12,hji12⟩:∃ j_:Int,(IntKind.u64.wrap (Int.tmod a1 32)) = j_:=⟨_,rfl⟩
                  replace H:(if 0≤(ji12) then (if x5_1.length < 35184372088832 then (sconceref03_Shl.l0 k1 a1 (x5_1 ++ [(Go.bits .or .u64 x6_1 (shl .u64 (IntKind.u64.wrap (rd l0 x20_1)) (ji12))) % 4294967296]) ((Go.bits .or .u64 x6_1 (shl .u64 (IntKind.u64.wrap (rd l0 x20_1)) (ji12))) / 4294967296) l0 (l0.length:Int) (wrap64 (x20_1 + 1))) else (none)) else (none)) = some r:=by first | (rw [hji12] at H;exact H) | (simp only [hji12] at H ⊢;exact H)
                  by_cases c13:0≤(ji12)
                  · rw [if_pos c13] at H
                    have c13b0:=eq_true c13
                    have c13b1:decide (0≤(ji12)) = true:=decide_eq_true c13
                    clear c13
                    obtain ⟨ji14,hji14⟩:∃ j_:Int,(shl .u64 (IntKind.u64.wrap (rd l0 x20_1)) (ji12)) = j_:=⟨_,rfl⟩
                    replace H:(if x5_1.length < 35184372088832 then (sconceref03_Shl.l0 k1 a1 (x5_1 ++ [(Go.bits .or .u64 x6_1 (ji14)) % 4294967296]) ((Go.bits .or .u64 x6_1 (ji14)) / 4294967296) l0 (l0.length:Int) (wrap64 (x20_1 + 1))) else (none)) = some r:=by first | (rw [hji14] at H;exact H) | (simp only [hji14] at H ⊢;exact H)
                    have hji14_:(IntKind.u64.wrap ((IntKind.u64.wrap (rd l0 x20_1)) * 2 ^ min (ji12).toNat 64)) = ji14:=hji14
                    have hji14z:(ji12)≤64→(IntKind.u64.wrap ((IntKind.u64.wrap (rd l0 x20_1)) * 2 ^ (ji12).toNat)) = ji14:=shl_small hji14
                    by_cases c15:x5_1.length < 35184372088832
                    · rw [if_pos c15] at H
                      have LMc15:=Aside0.mk c15
                      clear c15
                      obtain ⟨y198,hy198⟩:∃ y_:List Int,y_ = (x5_1 ++ [(Go.bits .or .u64 x6_1 (ji14)) % 4294967296]):=⟨_,rfl⟩
                      replace H:(sconceref03_Shl.l0 k1 a1 y198 ((Go.bits .or .u64 x6_1 (ji14)) / 4294967296) l0 (l0.length:Int) (wrap64 (x20_1 + 1))) = some r:=by first | (rw [hy198];with_reducible exact H) | (have H2_:=(Option.bind_some _ _).symm.trans H;rw [hy198];with_reducible exact H2_) | (have H2_:=(Option.bind_some _ _).symm.trans H;with_reducible exact H2_) | with_reducible exact H | (rw [hy198];exact H) | exact H
                      have Ny198:=Aside0.mk hy198
                      clear hy198
                      have H':=Aside0.mk H
                      clear H
                      have p197:0≤(x20_1:Int):=of_decide_eq_true (by first | (with_reducible assumption) | assumption)
                      have q197:x20_1 < (l0.length:Int):=of_decide_eq_true (by first | (with_reducible assumption) | assumption)
                      obtain ⟨ad197,e197,hx197_0⟩:=Kd.at_int HR0.out x20_1 p197 q197
                      cases e197
                      replace hx197_0:=(HB.out.cell (World.block_lt_of_cell? w _ hx197_0)).trans hx197_0
                      replace p197:=eq_true p197
                      replace q197:=eq_true q197
                      go_wp2_with (first | ((with_reducible refine gate_builtin (b:=.append) (xs:=#[.tmp 32,.tmp 35]) rfl ?_);at_builtin;refine Kd.R_append (Kd.int .u32) (w0:=w) w.heap.size rfl (.tmp 32) (.tmp 35) 48 83 (.int .u32 0) 4 rfl Try.underlying48 info83 rfl (by decide) (by omega) u5 x5_1 ((Go.bits .or .u64 x6_1 (ji14)) % 4294967296) [.int .u32 ((Go.bits .or .u64 x6_1 (ji14)) % 4294967296)] (fun k_ => (w.heap.size≤k_)) (fun _ => False) rfl rfl ?aP (fun _ hk => hk.elim) ?aF ?aO ?aB ?aS ?aL ?_;(case aP => exact rfl);(case aB => exact (by repeat (first | (with_reducible first | exact HB.out | apply below_alloc | apply pw_below_drewN | apply below_drew1) | exact HB.out)));(case aF => exact (fun k_ hk => (Nat.le_trans (below_size (by repeat (first | (with_reducible first | exact HB.out | apply below_alloc | apply pw_below_drewN | apply below_drew1) | exact HB.out))) hk)));(case aO => exact (by (with_reducible repeat (first | apply Kd.R_alloc | apply Kd.R_drewN | apply Kd.R_drew));exact HO_5.out));(case aS => exact (below_size (by repeat (first | (with_reducible first | exact HB.out | apply below_alloc | apply pw_below_drewN | apply below_drew1) | exact HB.out))));(case aL => have:=LMc15.out;omega);intro v199 w16 ho hb hg hat;rw [← Ny198.out] at ho;have n0_:=Aside0.mk (hb);have n1_:=Aside0.mk (ho);clear HB;clear HO_5;have HB:=n0_;have HO200:=n1_;clear n0_ n1_;clear ho hb hg hat))
                      go_roundg k1
                      case measure => have:=HK1.out;omega
                      case rel => exact ⟨(y198),((Go.bits .or .u64 x6_1 (ji14)) / 4294967296),(wrap64 (x20_1 + 1)),(by first | rfl | (simp;done) | (simp only [← hji14] <;> (first | rfl | simp)) | (simp [*];done)),(by first | rfl | (simp;done) | (simp [*];done)),H',⟨by have:=HK1.out;omega⟩,⟨by (with_reducible repeat (first | apply Kd.R_alloc | apply Kd.R_drewN | apply Kd.R_drew));exact HO200.out⟩,⟨by repeat (first | (with_reducible first | exact HB.out | apply below_alloc | apply pw_below_drewN | apply below_drew1) | exact HB.out)⟩⟩
                    · rw [if_neg c15] at H
                      exact absurd H (by simp)
                  · rw [if_neg c13] at H
                    exact absurd H (by simp)
                · rw [if_neg c11] at H
                  exact absurd H (by simp)
              · rw [if_neg c10] at H
                exact absurd H (by simp)
            · rw [if_neg c9] at H
              have c9b0:decide (x20_1 < (l0.length:Int)) = false:=decide_eq_false c9
              clear c9
              by_cases c17:x5_1.length < 35184372088832
              · rw [if_pos c17] at H
                have LMc17:=Aside0.mk c17
                clear c17
                obtain ⟨y201,hy201⟩:∃ y_:List Int,y_ = (x5_1 ++ [(x6_1) % 4294967296]):=⟨_,rfl⟩
                replace H:((sconceref03_trim.f k1 y201).bind fun t204 => (some t204)) = some r:=by first | (rw [hy201];with_reducible exact H) | (have H2_:=(Option.bind_some _ _).symm.trans H;rw [hy201];with_reducible exact H2_) | (have H2_:=(Option.bind_some _ _).symm.trans H;with_reducible exact H2_) | with_reducible exact H | (rw [hy201];exact H) | exact H
                have Ny201:=Aside0.mk hy201
                clear hy201
                replace H:=Option.bind_eq_some_iff.mp H
                obtain ⟨t204,A180,H⟩:=H
                replace H:(some t204) = some r:=H
                have A18:=Aside0.mk A180
                clear A180
                obtain rfl:=Option.some.inj H
                go_wp2_with (first | ((with_reducible refine gate_builtin (b:=.append) (xs:=#[.tmp 40,.tmp 43]) rfl ?_);at_builtin;refine Kd.R_append (Kd.int .u32) (w0:=w) w.heap.size rfl (.tmp 40) (.tmp 43) 48 83 (.int .u32 0) 4 rfl Try.underlying48 info83 rfl (by decide) (by omega) u5 x5_1 ((x6_1) % 4294967296) [.int .u32 ((x6_1) % 4294967296)] (fun k_ => (w.heap.size≤k_)) (fun _ => False) rfl rfl ?aP (fun _ hk => hk.elim) ?aF ?aO ?aB ?aS ?aL ?_;(case aP => exact rfl);(case aB => exact (by repeat (first | (with_reducible first | exact HB.out | apply below_alloc | apply pw_below_drewN | apply below_drew1) | exact HB.out)));(case aF => exact (fun k_ hk => (Nat.le_trans (below_size (by repeat (first | (with_reducible first | exact HB.out | apply below_alloc | apply pw_below_drewN | apply below_drew1) | exact HB.out))) hk)));(case aO => exact (by (with_reducible repeat (first | apply Kd.R_alloc | apply Kd.R_drewN | apply Kd.R_drew));exact HO_5.out));(case aS => exact (below_size (by repeat (first | (with_reducible first | exact HB.out | apply below_alloc | apply pw_below_drewN | apply below_drew1) | exact HB.out))));(case aL => have:=LMc17.out;omega);intro v202 w19 ho hb hg hat;rw [← Ny201.out] at ho;have n0_:=Aside0.mk (hb);have n1_:=Aside0.mk (ho);clear HB;clear HO_5;have HB:=n0_;have HO203:=n1_;clear n0_ n1_;clear ho hb hg hat;obtain ⟨Ao20,co20,eo20⟩:=Kd.R_slice HO203.out;subst eo20) | ((with_reducible refine gate_callee (f:=85) rfl ?_);refine goesL_ (some 45) rfl rfl Try.func85 (by kernel_rfl) rfl #[.slice Ao20 y201.length co20] rfl (by (try simp only [List.map_toArray,List.map_cons,List.map_nil]);first | done | rfl | (simp only [List.length_drop,List.length_take];rfl)) ?_;(with_reducible refine (trim_own k1 w.heap.size (fun k_ => (w.heap.size≤k_)) _ _ y201 t204 _ ?side1 A18.out).mono ?_);(case side1 => exact HO203.out);rintro e w21 ⟨v205,rfl,ho0,hb⟩;refine ⟨_,rfl,?_⟩;have n0_:=Aside0.mk (Kd.R_below (by (with_reducible repeat (first | apply Kd.R_alloc | apply Kd.R_drewN | apply Kd.R_drew));exact HO203.out) hb);have n1_:=Aside0.mk ho0;have n2_:=Aside0.mk (below_step (by repeat (first | (with_reducible first | exact HB.out | apply below_alloc | apply pw_below_drewN | apply below_drew1) | exact HB.out)) hb);clear HO203;clear HB;have HO203:=n0_;have HO206:=n1_;have HB:=n2_;clear n0_ n1_ n2_;(try clear hb);(try clear hb2);(try clear hk);(try clear hi);(try clear ho0)))
                go_ret
                exact ⟨_,by first | rfl | (simp [errW_none,errW_some] <;> rfl) | (simp only [← hji3];first | rfl | (simp [errW_none,errW_some] <;> rfl)) | (simp [*,errW_none,errW_some] <;> rfl),by (with_reducible repeat (first | apply Kd.R_alloc | apply Kd.R_drewN | apply Kd.R_drew));exact HO206.out,by repeat (first | (with_reducible first | exact HB.out | apply below_alloc | apply pw_below_drewN | apply below_drew1) | exact HB.out)⟩
              · rw [if_neg c17] at H
                exact absurd H (by simp)
      · rw [if_neg c6] at H
        exact absurd H (by simp)
    · rw [if_neg c5] at H
      exact absurd H (by simp)
  · rw [if_neg c4] at H
    exact absurd H (by simp)
end Go.Proofs.Ytonpekldcnankaa.X
