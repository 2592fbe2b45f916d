/- Texts of the walk and of the plain laws, laid together by a program: X22. -/
import Derived.Test.YtonpekldcnankaaZC6
import Derived.Test.YtonpekldcnankaaZC19
set_option maxHeartbeats 8000000
set_option maxRecDepth 100000
namespace Go.Proofs.Ytonpekldcnankaa.X
open Go.RowKit Go.Proofs.YtonpekldcnankaaW.PrintWords Go.Proofs.YtonpekldcnankaaW.PrintLast Go.Proofs.YtonpekldcnankaaW.PrintMore
attribute [local go_sem] max2_int min2_int max_two min_two max_three min_three max_four min_four
set_option linter.unusedVariables false
set_option linter.unusedSimpArgs false
def sconcelaw05_Few.l0:Nat→List (List Int)→Int→Int→Option (Bool)
 | 0,_,_,_ => none
 | k + 1,x5,x6,x7 => if x7 < x6 then (if 0≤x7 then (if x7 < (x5.length:Int) then (if ((rd_L2 x5 x7).length:Int) > 40 then (some false) else (sconcelaw05_Few.l0 k x5 x6 (wrap64 (x7 + 1)))) else (none)) else (none)) else (some true)
def sconcelaw05_Few.f (k:Nat) (l0:List (List Int)):Option (Bool):=sconcelaw05_Few.l0 k l0 (l0.length:Int) 0
theorem sconcelaw05_Few.calls (k:Nat) (A0:Option Addr) (c0:Nat) (l0:List (List Int)) (r:Bool) (w:World) (hr0:Kd.C (Kd.slice 24 (Kd.int .u64)) w A0 l0.length l0) (hc0:l0.length≤c0) (h:sconcelaw05_Few.f k l0 = some r) :
  Calls Try.prog 31 #[.slice A0 l0.length c0] w fun e w' => e = .returned (.bool r)∧Drawn0 w w':=by
 have HR0:=Aside0.mk hr0
 have HC0:=Aside0.mk hc0
 clear hr0 hc0
 have H:(sconcelaw05_Few.l0 k l0 (l0.length:Int) 0) = some r:=h
 clear h
 have H':=Aside0.mk H
 clear H
 go_enter Try.func31,Try.ntmps31
 go_wp2
 go_loopg [7] k (fun kq v7 w' => ∃ (x7_1:Int),v7 = .int .i64 x7_1∧Aside0 (sconcelaw05_Few.l0 kq l0 (l0.length:Int) x7_1 = some r)∧Aside0 (kq≤k)∧Drawn0 w w')
 case atStart => exact ⟨(0),(by first | rfl | (simp;done) | (simp [*];done)),H',⟨Nat.le_refl _⟩,by repeat (first | exact Drawn0.refl _ | apply Drawn0.step)⟩
 case round =>
  clear H'
  obtain ⟨x7_1,rfl,HA,HK1,⟨m1,rfl⟩⟩:=hrel
  cases gk with
  | zero => exact absurd HA.out (by simp [sconcelaw05_Few.l0])
  | succ k1 =>
   have H:=HA.out
   clear HA
   simp only [sconcelaw05_Few.l0] at H
   by_cases c2:x7_1 < (l0.length:Int)
   ·
    rw [if_pos c2] at H
    have c2b0:decide (x7_1 < (l0.length:Int)) = true:=decide_eq_true c2
    clear c2
    by_cases c3:0≤x7_1
    ·
     rw [if_pos c3] at H
     have c3b0:decide (0≤x7_1) = true:=decide_eq_true c3
     clear c3
     by_cases c4:x7_1 < (l0.length:Int)
     ·
      rw [if_pos c4] at H
      have c4b0:decide (x7_1 < (l0.length:Int)) = true:=decide_eq_true c4
      clear c4
      by_cases c5:((rd_L2 l0 x7_1).length:Int) > 40
      ·
       rw [if_pos c5] at H
       have c5b0:decide (40 < ((rd_L2 l0 x7_1).length:Int)) = true:=decide_eq_true c5
       have c5b1:decide (40 < (rd_L2 l0 x7_1).length) = true:=decide_eq_true (by omega)
       clear c5
       obtain rfl:=Option.some.inj H
       have p331:0≤(x7_1:Int):=of_decide_eq_true vD
       have q331:x7_1 < (l0.length:Int):=of_decide_eq_true vD
       obtain ⟨ad331,A331_0,c331_0,e331,hx331_0,hl331_0,hi331_0⟩:=at_L2 HR0.out x7_1 p331 q331
       cases e331
       have HR331_0:=Aside0.mk hi331_0
       have HC331_0:=Aside0.mk hl331_0
       clear hi331_0 hl331_0
       replace p331:=eq_true p331
       replace q331:=eq_true q331
       go_wp2
       go_ret
       exact ⟨by first | rfl | (simp;done) | (simp [*];done),by repeat (first | exact Drawn0.refl _ | apply Drawn0.step)⟩
      ·
       rw [if_neg c5] at H
       have c5b0:decide (40 < ((rd_L2 l0 x7_1).length:Int)) = false:=decide_eq_false c5
       have c5b1:decide (40 < (rd_L2 l0 x7_1).length) = false:=decide_eq_false (by omega)
       clear c5
       have H':=Aside0.mk H
       clear H
       have p331:0≤(x7_1:Int):=of_decide_eq_true vD
       have q331:x7_1 < (l0.length:Int):=of_decide_eq_true vD
       obtain ⟨ad331,A331_0,c331_0,e331,hx331_0,hl331_0,hi331_0⟩:=at_L2 HR0.out x7_1 p331 q331
       cases e331
       have HR331_0:=Aside0.mk hi331_0
       have HC331_0:=Aside0.mk hl331_0
       clear hi331_0 hl331_0
       replace p331:=eq_true p331
       replace q331:=eq_true q331
       go_wp2
       go_roundg k1
       case measure => have:=HK1.out;omega
       case rel => exact ⟨(wrap64 (x7_1 + 1)),(by first | rfl | (simp;done) | (simp [*];done)),H',⟨by have:=HK1.out;omega⟩,by repeat (first | exact Drawn0.refl _ | apply Drawn0.step)⟩
     ·
      rw [if_neg c4] at H
      exact absurd H (by simp)
    ·
     rw [if_neg c3] at H
     exact absurd H (by simp)
   ·
    rw [if_neg c2] at H
    have c2b0:decide (x7_1 < (l0.length:Int)) = false:=decide_eq_false c2
    clear c2
    obtain rfl:=Option.some.inj H
    go_wp2
    go_ret
    exact ⟨by first | rfl | (simp;done) | (simp [*];done),by repeat (first | exact Drawn0.refl _ | apply Drawn0.step)⟩
def sconcelaw07_Few.f (k:Nat) (l0_0:List Int) (a0_1:Int) (l0_2:List Int) (l1:List (List Int)):Option (Bool):=(sconcelaw05_Few.f k (([l0_0,l0_2]:List (List Int)))).bind fun t336 => (if t336 = true then ((sconcelaw05_Few.f k l1).bind fun t337 => (some t337)) else (some false))
theorem sconcelaw07_Few.calls (k:Nat) (P0_0_:Nat→Prop) (A0_0:Option Addr) (c0_0:Nat) (l0_0:List Int) (a0_1:Int) (P0_2_:Nat→Prop) (A0_2:Option Addr) (c0_2:Nat) (l0_2:List Int) (A1:Option Addr) (c1:Nat) (l1:List (List Int)) (r:Bool) (w:World) (hs0_0:Kd.V (Kd.int .u64) 24 w w.heap.size (fun k_ => P0_0_ k_) (.slice A0_0 l0_0.length c0_0) l0_0) (hs0_2:Kd.V (Kd.int .u64) 24 w w.heap.size (fun k_ => P0_2_ k_) (.slice A0_2 l0_2.length c0_2) l0_2) (hr1:Kd.C (Kd.slice 24 (Kd.int .u64)) w A1 l1.length l1) (hc1:l1.length≤c1) (h:sconcelaw07_Few.f k l0_0 a0_1 l0_2 l1 = some r) :
  Calls Try.prog 17 #[.agg #[.slice A0_0 l0_0.length c0_0,.int .u64 a0_1,.slice A0_2 l0_2.length c0_2],.slice A1 l1.length c1] w fun e w' => e = .returned (.bool r)∧Below w.heap.size w w':=by
 have hu26:=Try.underlying26
 have HO0_0:=Aside0.mk (show Kd.V (Kd.int .u64) 24 w w.heap.size (fun k_ => ((P0_0_ k_∨P0_2_ k_)∨w.heap.size≤k_)) (.slice A0_0 l0_0.length c0_0) l0_0 from Kd.V_mono hs0_0 (fun k_ hk => .inl (.inl hk)))
 have HO0_2:=Aside0.mk (show Kd.V (Kd.int .u64) 24 w w.heap.size (fun k_ => ((P0_0_ k_∨P0_2_ k_)∨w.heap.size≤k_)) (.slice A0_2 l0_2.length c0_2) l0_2 from Kd.V_mono hs0_2 (fun k_ hk => .inl (.inr hk)))
 have HR1:=Aside0.mk hr1
 have HC1:=Aside0.mk hc1
 clear hr1 hc1
 have HB:=Aside0.mk (Below.refl w.heap.size w)
 have H:((sconcelaw05_Few.f k (([l0_0,l0_2]:List (List Int)))).bind fun t336 => (if t336 = true then ((sconcelaw05_Few.f k l1).bind fun t337 => (some t337)) else (some false))) = some r:=h
 clear h
 obtain ⟨y333,hy333⟩:∃ y_:List (List Int),y_ = (([l0_0,l0_2]:List (List Int))):=⟨_,rfl⟩
 replace H:((sconcelaw05_Few.f k y333).bind fun t336 => (if t336 = true then ((sconcelaw05_Few.f k l1).bind fun t337 => (some t337)) else (some false))) = some r:=by first | (rw [hy333];with_reducible exact H) | (have H2_:=(Option.bind_some _ _).symm.trans H;rw [hy333];with_reducible exact H2_) | (have H2_:=(Option.bind_some _ _).symm.trans H;with_reducible exact H2_) | with_reducible exact H | (rw [hy333];exact H) | exact H
 have Ny333:=Aside0.mk hy333
 clear hy333
 replace H:=Option.bind_eq_some_iff.mp H
 obtain ⟨t336,A30,H⟩:=H
 replace H:(if t336 = true then ((sconcelaw05_Few.f k l1).bind fun t337 => (some t337)) else (some false)) = some r:=H
 have A3:=Aside0.mk A30
 clear A30
 by_cases c4:t336 = true
 ·
  subst c4
  have H1:((sconcelaw05_Few.f k l1).bind fun t337 => (some t337)) = some r:=by rw [if_pos rfl] at H;exact H
  clear H
  have H:=H1
  clear H1
  replace H:=Option.bind_eq_some_iff.mp H
  obtain ⟨t337,A50,H⟩:=H
  replace H:(some t337) = some r:=H
  have A5:=Aside0.mk A50
  clear A50
  obtain rfl:=Option.some.inj H
  go_enter Try.func17,Try.ntmps17
  go_wp2_with (first | ((with_reducible refine gate_dst (N:=2) rfl ?_);refine box_event ?hg (N:=2) ?hd (cs:=#[.slice A0_0 l0_0.length c0_0,.int .u64 a0_1,.slice A0_2 l0_2.length c0_2]) (t:=26) ?hr ?_;(case hd => rfl);(case hg => rfl);(case hr => first | (go_simp;done) | (go_simp;rfl));intro gb332 hg w6 hbox hb;have n0_:=Aside0.mk (Kd.V_below (Kd.V_elderB (vV HO0_0.out) gb332 (Nat.le_of_eq hg.symm)) hb);have n1_:=Aside0.mk (Kd.V_below (Kd.V_elderB (vV HO0_2.out) gb332 (Nat.le_of_eq hg.symm)) hb);have n2_:=Aside0.mk (below_step (vB HB.out) hb);have n3_:=Aside0.mk (hbox);have n4_:=Aside0.mk ((by rw [hg];exact (below_size (vB HB.out)):w.heap.size≤gb332));have n5_:=Aside0.mk ((by rw [hg];exact (below_size (vB HB.out)):w.heap.size≤gb332));clear HO0_0;clear HO0_2;clear HB;have HO0_0:=n0_;have HO0_2:=n1_;have HB:=n2_;have BK332:=n3_;have GW332:=n4_;have GE332:=n5_;clear n0_ n1_ n2_ n3_ n4_ n5_;clear hb hbox hg;have hcz7_0:w6.cell? ⟨gb332,0,none⟩ = some (.slice A0_0 l0_0.length c0_0):=(blk_cell BK332.out 0).trans rfl;have hcz7_1:w6.cell? ⟨gb332,1,none⟩ = some (.int .u64 a0_1):=(blk_cell BK332.out 1).trans rfl;have hcz7_2:w6.cell? ⟨gb332,2,none⟩ = some (.slice A0_2 l0_2.length c0_2):=(blk_cell BK332.out 2).trans rfl;have hfz7_0:=blk_frozen BK332.out 0;have hfz7_1:=blk_frozen BK332.out 1;have hfz7_2:=blk_frozen BK332.out 2) | ((with_reducible refine gate_dst (N:=9) rfl ?_);refine Kd.N_lit (Kd.slice 24 (Kd.int .u64)) _ 23 ?hg (N':=9) ?hd (xs:=([l0_0,l0_2]:List (List Int))) (inner:=[.slice A0_0 l0_0.length c0_0,.slice A0_2 l0_2.length c0_2]) (ok:=(fun k_ => ((P0_0_ k_∨P0_2_ k_)∨w.heap.size≤k_)∧k_≠gb332)) (okp:=(fun k_ => ((P0_0_ k_∨P0_2_ k_)∨w.heap.size≤k_)∧k_≠gb332)) ?hr ?hp (fun _ hk => hk) ((show ∀ k_,w6.heap.size≤k_→(fun k_ => ((P0_0_ k_∨P0_2_ k_)∨w.heap.size≤k_)∧k_≠gb332) k_ from fun k_ hk => ⟨(.inr (Nat.le_trans (below_size (vBg HB.out GE332.out)) hk)),Kd.freshB (g:=gb332) (o:=.cells #[.slice A0_0 l0_0.length c0_0,.int .u64 a0_1,.slice A0_2 l0_2.length c0_2] 26 (0,0)) (vK BK332.out) k_ hk⟩) _ (Nat.le_refl _)) (Below.refl _ _) (Nat.le_refl _) (by simp) ?_;(case hd => rfl);(case hg => rfl);(case hr => first | (go_simp;done) | (go_simp;rfl));(case hp => exact (Reps.one (show Kd.FK (Kd.slice 24 (Kd.int .u64)) _ _ l0_0 [.slice A0_0 l0_0.length c0_0] from (Kd.FK_slice_mk (Kd.V_reads' (Kd.V_mono (ok':=(fun k_ => ((P0_0_ k_∨P0_2_ k_)∨w.heap.size≤k_)∧k_≠gb332)) (HO0_0.out) (fun k_ hk => ⟨hk.1,hk.2⟩))).2.1 (Kd.V_F (by (with_reducible repeat (first | apply Kd.V_alloc | apply Kd.V_drewN | apply Kd.V_drew));exact (Kd.V_mono (ok':=(fun k_ => ((P0_0_ k_∨P0_2_ k_)∨w.heap.size≤k_)∧k_≠gb332)) (HO0_0.out) (fun k_ hk => ⟨hk.1,hk.2⟩)))))) (Reps.one (show Kd.FK (Kd.slice 24 (Kd.int .u64)) _ _ l0_2 [.slice A0_2 l0_2.length c0_2] from (Kd.FK_slice_mk (Kd.V_reads' (Kd.V_mono (ok':=(fun k_ => ((P0_0_ k_∨P0_2_ k_)∨w.heap.size≤k_)∧k_≠gb332)) (HO0_2.out) (fun k_ hk => ⟨hk.1,hk.2⟩))).2.1 (Kd.V_F (by (with_reducible repeat (first | apply Kd.V_alloc | apply Kd.V_drewN | apply Kd.V_drew));exact (Kd.V_mono (ok':=(fun k_ => ((P0_0_ k_∨P0_2_ k_)∨w.heap.size≤k_)∧k_≠gb332)) (HO0_2.out) (fun k_ hk => ⟨hk.1,hk.2⟩)))))) (Reps.none _ _))));intro v334 w8 ho9 hb hg_ hnew_;clear hg_ hnew_;(first | rw [← Ny333.out] at ho9 | (simp only [Int.reduceToNat] at ho9;rw [← Ny333.out] at ho9));have n0_:=Aside0.mk (Kd.V_elder' (vV HO0_0.out) (Kd.N_base ho9) hb);have n1_:=Aside0.mk (Kd.V_elder' (vV HO0_2.out) (Kd.N_base ho9) hb);have n2_:=Aside0.mk (Kd.N_lower ho9 (below_size (vBg HB.out GE332.out)));have n3_:=Aside0.mk (blk_below (g:=gb332) (o:=.cells #[.slice A0_0 l0_0.length c0_0,.int .u64 a0_1,.slice A0_2 l0_2.length c0_2] 26 (0,0)) (vK BK332.out) hb);have n4_:=Aside0.mk (below_step (vBg HB.out GE332.out) hb);clear HO0_0;clear HO0_2;clear BK332;clear HB;have HO0_0:=n0_;have HO0_2:=n1_;have HO335:=n2_;have BK332:=n3_;have HB:=n4_;clear n0_ n1_ n2_ n3_ n4_;clear hb ho9;obtain ⟨Ao10,co10,eo10⟩:=Kd.N_slice HO335.out;subst eo10) | ((with_reducible refine gate_callee (f:=31) rfl ?_);refine goesL_ (some 10) rfl rfl Try.func31 (by kernel_rfl) rfl #[.slice Ao10 y333.length co10] rfl vA ?_;(with_reducible refine (sconcelaw05_Few.calls k _ _ y333 true _ ?side1 ?side2 A3.out).mono ?_);(case side1 => repeat (first | exact (Kd.N_reads' HO335.out).2.2 | (with_reducible refine Kd.C_alloc ?_ _) | (with_reducible refine Kd.C_drewN ?_ _) | (with_reducible refine Kd.C_drew ?_)));(case side2 => exact (Kd.N_reads' HO335.out).2.1);rintro e w' ⟨rfl,⟨nd,rfl⟩⟩;refine ⟨_,rfl,?_⟩) | (go_at_call 31;(with_reducible refine (sconcelaw05_Few.calls k _ _ l1 t337 _ ?side1 ?side2 A5.out).mono ?_);(case side1 => repeat (first | exact (Kd.C_below HR1.out (vBg HB.out GE332.out)) | (with_reducible refine Kd.C_alloc ?_ _) | (with_reducible refine Kd.C_drewN ?_ _) | (with_reducible refine Kd.C_drew ?_)));(case side2 => exact HC1.out);rintro e w' ⟨rfl,⟨nd,rfl⟩⟩))
  go_ret
  exact ⟨by first | rfl | (simp [errW_none,errW_some] <;> rfl) | (simp [*,errW_none,errW_some] <;> rfl),by repeat (first | (with_reducible first | exact HB.out | apply below_alloc | apply pw_below_drewN | apply below_drew1 | refine below_set ?_ GE332.out) | exact HB.out)⟩
 ·
  replace c4:=Bool.eq_false_iff.mpr c4
  subst c4
  have H1:(some false) = some r:=by rw [if_neg (show ¬ (false = true) by decide)] at H;exact H
  clear H
  have H:=H1
  clear H1
  obtain rfl:=Option.some.inj H
  go_enter Try.func17,Try.ntmps17
  go_wp2_with (first | ((with_reducible refine gate_dst (N:=2) rfl ?_);refine box_event ?hg (N:=2) ?hd (cs:=#[.slice A0_0 l0_0.length c0_0,.int .u64 a0_1,.slice A0_2 l0_2.length c0_2]) (t:=26) ?hr ?_;(case hd => rfl);(case hg => rfl);(case hr => first | (go_simp;done) | (go_simp;rfl));intro gb332 hg w11 hbox hb;have n0_:=Aside0.mk (Kd.V_below (Kd.V_elderB (vV HO0_0.out) gb332 (Nat.le_of_eq hg.symm)) hb);have n1_:=Aside0.mk (Kd.V_below (Kd.V_elderB (vV HO0_2.out) gb332 (Nat.le_of_eq hg.symm)) hb);have n2_:=Aside0.mk (below_step (vB HB.out) hb);have n3_:=Aside0.mk (hbox);have n4_:=Aside0.mk ((by rw [hg];exact (below_size (vB HB.out)):w.heap.size≤gb332));have n5_:=Aside0.mk ((by rw [hg];exact (below_size (vB HB.out)):w.heap.size≤gb332));clear HO0_0;clear HO0_2;clear HB;have HO0_0:=n0_;have HO0_2:=n1_;have HB:=n2_;have BK332:=n3_;have GW332:=n4_;have GE332:=n5_;clear n0_ n1_ n2_ n3_ n4_ n5_;clear hb hbox hg;have hcz12_0:w11.cell? ⟨gb332,0,none⟩ = some (.slice A0_0 l0_0.length c0_0):=(blk_cell BK332.out 0).trans rfl;have hcz12_1:w11.cell? ⟨gb332,1,none⟩ = some (.int .u64 a0_1):=(blk_cell BK332.out 1).trans rfl;have hcz12_2:w11.cell? ⟨gb332,2,none⟩ = some (.slice A0_2 l0_2.length c0_2):=(blk_cell BK332.out 2).trans rfl;have hfz12_0:=blk_frozen BK332.out 0;have hfz12_1:=blk_frozen BK332.out 1;have hfz12_2:=blk_frozen BK332.out 2) | ((with_reducible refine gate_dst (N:=9) rfl ?_);refine Kd.N_lit (Kd.slice 24 (Kd.int .u64)) _ 23 ?hg (N':=9) ?hd (xs:=([l0_0,l0_2]:List (List Int))) (inner:=[.slice A0_0 l0_0.length c0_0,.slice A0_2 l0_2.length c0_2]) (ok:=(fun k_ => ((P0_0_ k_∨P0_2_ k_)∨w.heap.size≤k_)∧k_≠gb332)) (okp:=(fun k_ => ((P0_0_ k_∨P0_2_ k_)∨w.heap.size≤k_)∧k_≠gb332)) ?hr ?hp (fun _ hk => hk) ((show ∀ k_,w11.heap.size≤k_→(fun k_ => ((P0_0_ k_∨P0_2_ k_)∨w.heap.size≤k_)∧k_≠gb332) k_ from fun k_ hk => ⟨(.inr (Nat.le_trans (below_size (vBg HB.out GE332.out)) hk)),Kd.freshB (g:=gb332) (o:=.cells #[.slice A0_0 l0_0.length c0_0,.int .u64 a0_1,.slice A0_2 l0_2.length c0_2] 26 (0,0)) (vK BK332.out) k_ hk⟩) _ (Nat.le_refl _)) (Below.refl _ _) (Nat.le_refl _) (by simp) ?_;(case hd => rfl);(case hg => rfl);(case hr => first | (go_simp;done) | (go_simp;rfl));(case hp => exact (Reps.one (show Kd.FK (Kd.slice 24 (Kd.int .u64)) _ _ l0_0 [.slice A0_0 l0_0.length c0_0] from (Kd.FK_slice_mk (Kd.V_reads' (Kd.V_mono (ok':=(fun k_ => ((P0_0_ k_∨P0_2_ k_)∨w.heap.size≤k_)∧k_≠gb332)) (HO0_0.out) (fun k_ hk => ⟨hk.1,hk.2⟩))).2.1 (Kd.V_F (by (with_reducible repeat (first | apply Kd.V_alloc | apply Kd.V_drewN | apply Kd.V_drew));exact (Kd.V_mono (ok':=(fun k_ => ((P0_0_ k_∨P0_2_ k_)∨w.heap.size≤k_)∧k_≠gb332)) (HO0_0.out) (fun k_ hk => ⟨hk.1,hk.2⟩)))))) (Reps.one (show Kd.FK (Kd.slice 24 (Kd.int .u64)) _ _ l0_2 [.slice A0_2 l0_2.length c0_2] from (Kd.FK_slice_mk (Kd.V_reads' (Kd.V_mono (ok':=(fun k_ => ((P0_0_ k_∨P0_2_ k_)∨w.heap.size≤k_)∧k_≠gb332)) (HO0_2.out) (fun k_ hk => ⟨hk.1,hk.2⟩))).2.1 (Kd.V_F (by (with_reducible repeat (first | apply Kd.V_alloc | apply Kd.V_drewN | apply Kd.V_drew));exact (Kd.V_mono (ok':=(fun k_ => ((P0_0_ k_∨P0_2_ k_)∨w.heap.size≤k_)∧k_≠gb332)) (HO0_2.out) (fun k_ hk => ⟨hk.1,hk.2⟩)))))) (Reps.none _ _))));intro v334 w13 ho14 hb hg_ hnew_;clear hg_ hnew_;(first | rw [← Ny333.out] at ho14 | (simp only [Int.reduceToNat] at ho14;rw [← Ny333.out] at ho14));have n0_:=Aside0.mk (Kd.V_elder' (vV HO0_0.out) (Kd.N_base ho14) hb);have n1_:=Aside0.mk (Kd.V_elder' (vV HO0_2.out) (Kd.N_base ho14) hb);have n2_:=Aside0.mk (Kd.N_lower ho14 (below_size (vBg HB.out GE332.out)));have n3_:=Aside0.mk (blk_below (g:=gb332) (o:=.cells #[.slice A0_0 l0_0.length c0_0,.int .u64 a0_1,.slice A0_2 l0_2.length c0_2] 26 (0,0)) (vK BK332.out) hb);have n4_:=Aside0.mk (below_step (vBg HB.out GE332.out) hb);clear HO0_0;clear HO0_2;clear BK332;clear HB;have HO0_0:=n0_;have HO0_2:=n1_;have HO335:=n2_;have BK332:=n3_;have HB:=n4_;clear n0_ n1_ n2_ n3_ n4_;clear hb ho14;obtain ⟨Ao15,co15,eo15⟩:=Kd.N_slice HO335.out;subst eo15) | ((with_reducible refine gate_callee (f:=31) rfl ?_);refine goesL_ (some 10) rfl rfl Try.func31 (by kernel_rfl) rfl #[.slice Ao15 y333.length co15] rfl vA ?_;(with_reducible refine (sconcelaw05_Few.calls k _ _ y333 false _ ?side1 ?side2 A3.out).mono ?_);(case side1 => repeat (first | exact (Kd.N_reads' HO335.out).2.2 | (with_reducible refine Kd.C_alloc ?_ _) | (with_reducible refine Kd.C_drewN ?_ _) | (with_reducible refine Kd.C_drew ?_)));(case side2 => exact (Kd.N_reads' HO335.out).2.1);rintro e w' ⟨rfl,⟨nd,rfl⟩⟩;refine ⟨_,rfl,?_⟩))
  go_ret
  exact ⟨by first | rfl | (simp [errW_none,errW_some] <;> rfl) | (simp [*,errW_none,errW_some] <;> rfl),by repeat (first | (with_reducible first | exact HB.out | apply below_alloc | apply pw_below_drewN | apply below_drew1 | refine below_set ?_ GE332.out) | exact HB.out)⟩
def sconceref06_Check.f (k:Nat) (l0_0:List Int) (a0_1:Int) (l0_2:List Int):Option (Bool):=(sconceref06_Setup.f k l0_0).bind fun bt339 => (if bt339.2.2.2 = 0 then ((sconceref03_Same.f k bt339.1 l0_0).bind fun t348 => (if t348 = true then (if bt339.2.1 = a0_1 then ((sconceref03_Same.f k bt339.2.2.1 l0_2).bind fun t349 => (some t349)) else (some false)) else (some false))) else (some false))
theorem sconceref06_Check.calls (k:Nat) (A0_0:Option Addr) (c0_0:Nat) (l0_0:List Int) (a0_1:Int) (A0_2:Option Addr) (c0_2:Nat) (l0_2:List Int) (r:Bool) (w:World) (hr0_0:Kd.C (Kd.int .u64) w A0_0 l0_0.length l0_0) (hc0_0:l0_0.length≤c0_0) (hr0_2:Kd.C (Kd.int .u64) w A0_2 l0_2.length l0_2) (hc0_2:l0_2.length≤c0_2) (h:sconceref06_Check.f k l0_0 a0_1 l0_2 = some r) :
  Calls Try.prog 80 #[.agg #[.slice A0_0 l0_0.length c0_0,.int .u64 a0_1,.slice A0_2 l0_2.length c0_2]] w fun e w' => e = .returned (.bool r)∧Below w.heap.size w w':=by
 have hu26:=Try.underlying26
 have HR0_0:=Aside0.mk hr0_0
 have HC0_0:=Aside0.mk hc0_0
 clear hr0_0 hc0_0
 have HR0_2:=Aside0.mk hr0_2
 have HC0_2:=Aside0.mk hc0_2
 clear hr0_2 hc0_2
 have HB:=Aside0.mk (Below.refl w.heap.size w)
 have H:((sconceref06_Setup.f k l0_0).bind fun bt339 => (if bt339.2.2.2 = 0 then ((sconceref03_Same.f k bt339.1 l0_0).bind fun t348 => (if t348 = true then (if bt339.2.1 = a0_1 then ((sconceref03_Same.f k bt339.2.2.1 l0_2).bind fun t349 => (some t349)) else (some false)) else (some false))) else (some false))) = some r:=h
 clear h
 replace H:=Option.bind_eq_some_iff.mp H
 obtain ⟨⟨t339,t342,t343,t346⟩,A20,H⟩:=H
 replace H:(if t346 = 0 then ((sconceref03_Same.f k t339 l0_0).bind fun t348 => (if t348 = true then (if t342 = a0_1 then ((sconceref03_Same.f k t343 l0_2).bind fun t349 => (some t349)) else (some false)) else (some false))) else (some false)) = some r:=H
 have A2:=Aside0.mk A20
 clear A20
 by_cases c3:t346 = 0
 ·
  rw [if_pos c3] at H
  have c3b0:(t346 == 0) = true:=beq_iff_eq.mpr c3
  have c3b1:(t346 != 0) = false:=bne_eq_false_iff_eq.mpr c3
  clear c3
  replace H:=Option.bind_eq_some_iff.mp H
  obtain ⟨t348,A40,H⟩:=H
  replace H:(if t348 = true then (if t342 = a0_1 then ((sconceref03_Same.f k t343 l0_2).bind fun t349 => (some t349)) else (some false)) else (some false)) = some r:=H
  have A4:=Aside0.mk A40
  clear A40
  by_cases c5:t348 = true
  ·
   subst c5
   have H1:(if t342 = a0_1 then ((sconceref03_Same.f k t343 l0_2).bind fun t349 => (some t349)) else (some false)) = some r:=by rw [if_pos rfl] at H;exact H
   clear H
   have H:=H1
   clear H1
   by_cases c6:t342 = a0_1
   ·
    rw [if_pos c6] at H
    have c6b0:(t342 == a0_1) = true:=beq_iff_eq.mpr c6
    have c6b1:(t342 != a0_1) = false:=bne_eq_false_iff_eq.mpr c6
    clear c6
    replace H:=Option.bind_eq_some_iff.mp H
    obtain ⟨t349,A70,H⟩:=H
    replace H:(some t349) = some r:=H
    have A7:=Aside0.mk A70
    clear A70
    obtain rfl:=Option.some.inj H
    go_enter Try.func80,Try.ntmps80
    go_wp2_with (first | ((with_reducible refine gate_dst (N:=1) rfl ?_);refine box_event ?hg (N:=1) ?hd (cs:=#[.slice A0_0 l0_0.length c0_0,.int .u64 a0_1,.slice A0_2 l0_2.length c0_2]) (t:=26) ?hr ?_;(case hd => rfl);(case hg => rfl);(case hr => first | (go_simp;done) | (go_simp;rfl));intro gb338 hg w8 hbox hb;have n0_:=Aside0.mk (below_step (vB HB.out) hb);have n1_:=Aside0.mk (hbox);have n2_:=Aside0.mk ((by rw [hg];exact (below_size (vB HB.out)):w.heap.size≤gb338));have n3_:=Aside0.mk ((by rw [hg];exact (below_size (vB HB.out)):w.heap.size≤gb338));clear HB;have HB:=n0_;have BK338:=n1_;have GW338:=n2_;have GE338:=n3_;clear n0_ n1_ n2_ n3_;clear hb hbox hg;have hcz9_0:w8.cell? ⟨gb338,0,none⟩ = some (.slice A0_0 l0_0.length c0_0):=(blk_cell BK338.out 0).trans rfl;have hcz9_1:w8.cell? ⟨gb338,1,none⟩ = some (.int .u64 a0_1):=(blk_cell BK338.out 1).trans rfl;have hcz9_2:w8.cell? ⟨gb338,2,none⟩ = some (.slice A0_2 l0_2.length c0_2):=(blk_cell BK338.out 2).trans rfl;have hfz9_0:=blk_frozen BK338.out 0;have hfz9_1:=blk_frozen BK338.out 1;have hfz9_2:=blk_frozen BK338.out 2) | ((with_reducible refine gate_callee (f:=62) rfl ?_);refine goesL_ (some 8) rfl rfl Try.func62 (by kernel_rfl) rfl #[.slice A0_0 l0_0.length c0_0] rfl vA ?_;(with_reducible refine (sconceref06_Setup.calls k _ _ l0_0 t339 t342 t343 t346 _ ?side1 ?side2 A2.out).mono ?_);(case side1 => repeat (first | exact (Kd.C_below HR0_0.out HB.out) | (with_reducible refine Kd.C_alloc ?_ _) | (with_reducible refine Kd.C_drewN ?_ _) | (with_reducible refine Kd.C_drew ?_)));(case side2 => exact HC0_0.out);rintro e w10 ⟨v340,v344,rfl,ho0,ho1,hb⟩;refine ⟨_,rfl,?_⟩;have n0_:=Aside0.mk (Kd.R_lower ho0 (below_size (vBg HB.out GE338.out)));have n1_:=Aside0.mk (Kd.R_lower ho1 (below_size (vBg HB.out GE338.out)));have n2_:=Aside0.mk (blk_below (g:=gb338) (o:=.cells #[.slice A0_0 l0_0.length c0_0,.int .u64 a0_1,.slice A0_2 l0_2.length c0_2] 26 (0,0)) (vK BK338.out) hb);have n3_:=Aside0.mk (below_step (vBg HB.out GE338.out) hb);clear BK338;clear HB;have HO341:=n0_;have HO345:=n1_;have BK338:=n2_;have HB:=n3_;clear n0_ n1_ n2_ n3_;(try clear hb);(try clear hb2);(try clear hk);(try clear hi);(try clear ho0);(try clear ho1)) | ((with_reducible refine gate_dst (N:=3) rfl ?_);refine box_event ?hg (N:=3) ?hd (cs:=#[.slice none 0 0,.int .u64 0,.slice none 0 0]) (t:=26) ?hr ?_;(case hd => rfl);(case hg => rfl);(case hr => first | (go_simp;done) | (go_simp;rfl));intro gb347 hg w11 hbox hb;have n0_:=Aside0.mk (Kd.R_below (vR HO341.out) hb);have n1_:=Aside0.mk (Kd.R_below (vR HO345.out) hb);have n2_:=Aside0.mk (blk_below (g:=gb338) (o:=.cells #[.slice A0_0 l0_0.length c0_0,.int .u64 a0_1,.slice A0_2 l0_2.length c0_2] 26 (0,0)) (vK BK338.out) hb);have n3_:=Aside0.mk (below_step (vBg HB.out GE338.out) hb);have n4_:=Aside0.mk (hbox);have n5_:=Aside0.mk ((by rw [hg];exact (below_size (vBg HB.out GE338.out)):w.heap.size≤gb347));have n6_:=Aside0.mk ((by rw [hg];exact (below_size (vBg HB.out GE338.out)):w.heap.size≤gb347));have n7_:=Aside0.mk ((by rw [hg];exact Nat.ne_of_lt (blk_lt (g:=gb338) (o:=.cells #[.slice A0_0 l0_0.length c0_0,.int .u64 a0_1,.slice A0_2 l0_2.length c0_2] 26 (0,0)) (vK BK338.out)):gb338≠gb347));have n8_:=Aside0.mk ((by rw [hg];exact Nat.ne_of_gt (blk_lt (g:=gb338) (o:=.cells #[.slice A0_0 l0_0.length c0_0,.int .u64 a0_1,.slice A0_2 l0_2.length c0_2] 26 (0,0)) (vK BK338.out)):gb347≠gb338));clear HO341;clear HO345;clear BK338;clear HB;have HO341:=n0_;have HO345:=n1_;have BK338:=n2_;have HB:=n3_;have BK347:=n4_;have GW347:=n5_;have GE347:=n6_;have NB338_347:=n7_;have NB347_338:=n8_;clear n0_ n1_ n2_ n3_ n4_ n5_ n6_ n7_ n8_;clear hb hbox hg;obtain ⟨Ao12,co12,eo12⟩:=Kd.R_slice HO341.out;subst eo12;have hnb13:=NB347_338.out;have hnc13:=NB338_347.out;have hcz14_0:w11.cell? ⟨gb347,0,none⟩ = some (.slice none 0 0):=(blk_cell BK347.out 0).trans rfl;have hcz14_1:w11.cell? ⟨gb347,1,none⟩ = some (.int .u64 0):=(blk_cell BK347.out 1).trans rfl;have hcz14_2:w11.cell? ⟨gb347,2,none⟩ = some (.slice none 0 0):=(blk_cell BK347.out 2).trans rfl;have hfz14_0:=blk_frozen BK347.out 0;have hfz14_1:=blk_frozen BK347.out 1;have hfz14_2:=blk_frozen BK347.out 2;obtain ⟨Ao15,co15,eo15⟩:=Kd.R_slice HO345.out;subst eo15;have hcz16_0:w11.cell? ⟨gb338,0,none⟩ = some (.slice A0_0 l0_0.length c0_0):=(blk_cell BK338.out 0).trans rfl;have hcz16_1:w11.cell? ⟨gb338,1,none⟩ = some (.int .u64 a0_1):=(blk_cell BK338.out 1).trans rfl;have hcz16_2:w11.cell? ⟨gb338,2,none⟩ = some (.slice A0_2 l0_2.length c0_2):=(blk_cell BK338.out 2).trans rfl;have hfz16_0:=blk_frozen BK338.out 0;have hfz16_1:=blk_frozen BK338.out 1;have hfz16_2:=blk_frozen BK338.out 2) | (go_at_call 21;(with_reducible refine (sconceref03_Same.calls k _ _ t339 _ _ l0_0 true _ ?side1 ?side2 ?side3 ?side4 A4.out).mono ?_);(case side1 => refine (Kd.R_reads' (e:=24) (base:=w.heap.size) (ok:=fun k_ => some k_≠(.slice Ao15 t343.length co15:Value).ownBlock) (n:=t339.length) (c:=co12) ?_).2.2;exact (by (with_reducible repeat (first | apply Kd.R_alloc | apply Kd.R_drewN | apply Kd.R_drew));exact (Kd.R_mono (Kd.R_far (p:=⟨gb347,2,none⟩) (Kd.R_far (p:=⟨gb347,1,none⟩) (Kd.R_far (p:=⟨gb347,0,none⟩) (Kd.R_types HO341.out BK347.out (by decide)) (fun _ hk => hk.2) (.slice Ao12 t339.length co12)) (fun _ hk => hk.2) (.int .u64 t342)) (fun _ hk => hk.2) (.slice Ao15 t343.length co15)) (fun _ h_ => h_.1))));(case side2 => exact (Kd.R_reads' HO341.out).2.1);(case side3 => exact Kd.C_below HR0_0.out (by repeat (first | (with_reducible first | exact HB.out | apply below_alloc | apply pw_below_drewN | apply below_drew1 | refine below_set ?_ GE338.out | refine below_set ?_ GE347.out) | exact HB.out)));(case side4 => exact HC0_0.out);rintro e w' ⟨rfl,⟨nd,rfl⟩⟩) | (go_at_call 21;(with_reducible refine (sconceref03_Same.calls k _ _ t343 _ _ l0_2 t349 _ ?side1 ?side2 ?side3 ?side4 A7.out).mono ?_);(case side1 => refine (Kd.R_reads' (e:=24) (base:=w.heap.size) (ok:=fun k_ => some k_≠(.slice Ao12 t339.length co12:Value).ownBlock) (n:=t343.length) (c:=co15) ?_).2.2;exact (by (with_reducible repeat (first | apply Kd.R_alloc | apply Kd.R_drewN | apply Kd.R_drew));exact (Kd.R_mono (Kd.R_far (p:=⟨gb347,2,none⟩) (Kd.R_far (p:=⟨gb347,1,none⟩) (Kd.R_far (p:=⟨gb347,0,none⟩) (Kd.R_types HO345.out BK347.out (by decide)) (fun _ hk => hk.2) (.slice Ao12 t339.length co12)) (fun _ hk => hk.2) (.int .u64 t342)) (fun _ hk => hk.2) (.slice Ao15 t343.length co15)) (fun _ h_ => h_.1))));(case side2 => exact (Kd.R_reads' HO345.out).2.1);(case side3 => exact Kd.C_below HR0_2.out (by repeat (first | (with_reducible first | exact HB.out | apply below_alloc | apply pw_below_drewN | apply below_drew1 | refine below_set ?_ GE338.out | refine below_set ?_ GE347.out) | exact HB.out)));(case side4 => exact HC0_2.out);rintro e w' ⟨rfl,⟨nd,rfl⟩⟩))
    go_ret
    exact ⟨by first | rfl | (simp [errW_none,errW_some] <;> rfl) | (simp [*,errW_none,errW_some] <;> rfl),by repeat (first | (with_reducible first | exact HB.out | apply below_alloc | apply pw_below_drewN | apply below_drew1 | refine below_set ?_ GE338.out | refine below_set ?_ GE347.out) | exact HB.out)⟩
   ·
    rw [if_neg c6] at H
    have c6b0:(t342 == a0_1) = false:=beq_eq_false_iff_ne.mpr c6
    have c6b1:(t342 != a0_1) = true:=bne_iff_ne.mpr c6
    obtain rfl:=Option.some.inj H
    go_enter Try.func80,Try.ntmps80
    go_wp2_with (first | ((with_reducible refine gate_dst (N:=1) rfl ?_);refine box_event ?hg (N:=1) ?hd (cs:=#[.slice A0_0 l0_0.length c0_0,.int .u64 a0_1,.slice A0_2 l0_2.length c0_2]) (t:=26) ?hr ?_;(case hd => rfl);(case hg => rfl);(case hr => first | (go_simp;done) | (go_simp;rfl));intro gb338 hg w17 hbox hb;have n0_:=Aside0.mk (below_step (vB HB.out) hb);have n1_:=Aside0.mk (hbox);have n2_:=Aside0.mk ((by rw [hg];exact (below_size (vB HB.out)):w.heap.size≤gb338));have n3_:=Aside0.mk ((by rw [hg];exact (below_size (vB HB.out)):w.heap.size≤gb338));clear HB;have HB:=n0_;have BK338:=n1_;have GW338:=n2_;have GE338:=n3_;clear n0_ n1_ n2_ n3_;clear hb hbox hg;have hcz18_0:w17.cell? ⟨gb338,0,none⟩ = some (.slice A0_0 l0_0.length c0_0):=(blk_cell BK338.out 0).trans rfl;have hcz18_1:w17.cell? ⟨gb338,1,none⟩ = some (.int .u64 a0_1):=(blk_cell BK338.out 1).trans rfl;have hcz18_2:w17.cell? ⟨gb338,2,none⟩ = some (.slice A0_2 l0_2.length c0_2):=(blk_cell BK338.out 2).trans rfl;have hfz18_0:=blk_frozen BK338.out 0;have hfz18_1:=blk_frozen BK338.out 1;have hfz18_2:=blk_frozen BK338.out 2) | ((with_reducible refine gate_callee (f:=62) rfl ?_);refine goesL_ (some 8) rfl rfl Try.func62 (by kernel_rfl) rfl #[.slice A0_0 l0_0.length c0_0] rfl vA ?_;(with_reducible refine (sconceref06_Setup.calls k _ _ l0_0 t339 t342 t343 t346 _ ?side1 ?side2 A2.out).mono ?_);(case side1 => repeat (first | exact (Kd.C_below HR0_0.out HB.out) | (with_reducible refine Kd.C_alloc ?_ _) | (with_reducible refine Kd.C_drewN ?_ _) | (with_reducible refine Kd.C_drew ?_)));(case side2 => exact HC0_0.out);rintro e w19 ⟨v340,v344,rfl,ho0,ho1,hb⟩;refine ⟨_,rfl,?_⟩;have n0_:=Aside0.mk (Kd.R_lower ho0 (below_size (vBg HB.out GE338.out)));have n1_:=Aside0.mk (Kd.R_lower ho1 (below_size (vBg HB.out GE338.out)));have n2_:=Aside0.mk (blk_below (g:=gb338) (o:=.cells #[.slice A0_0 l0_0.length c0_0,.int .u64 a0_1,.slice A0_2 l0_2.length c0_2] 26 (0,0)) (vK BK338.out) hb);have n3_:=Aside0.mk (below_step (vBg HB.out GE338.out) hb);clear BK338;clear HB;have HO341:=n0_;have HO345:=n1_;have BK338:=n2_;have HB:=n3_;clear n0_ n1_ n2_ n3_;(try clear hb);(try clear hb2);(try clear hk);(try clear hi);(try clear ho0);(try clear ho1)) | ((with_reducible refine gate_dst (N:=3) rfl ?_);refine box_event ?hg (N:=3) ?hd (cs:=#[.slice none 0 0,.int .u64 0,.slice none 0 0]) (t:=26) ?hr ?_;(case hd => rfl);(case hg => rfl);(case hr => first | (go_simp;done) | (go_simp;rfl));intro gb347 hg w20 hbox hb;have n0_:=Aside0.mk (Kd.R_below (vR HO341.out) hb);have n1_:=Aside0.mk (Kd.R_below (vR HO345.out) hb);have n2_:=Aside0.mk (blk_below (g:=gb338) (o:=.cells #[.slice A0_0 l0_0.length c0_0,.int .u64 a0_1,.slice A0_2 l0_2.length c0_2] 26 (0,0)) (vK BK338.out) hb);have n3_:=Aside0.mk (below_step (vBg HB.out GE338.out) hb);have n4_:=Aside0.mk (hbox);have n5_:=Aside0.mk ((by rw [hg];exact (below_size (vBg HB.out GE338.out)):w.heap.size≤gb347));have n6_:=Aside0.mk ((by rw [hg];exact (below_size (vBg HB.out GE338.out)):w.heap.size≤gb347));have n7_:=Aside0.mk ((by rw [hg];exact Nat.ne_of_lt (blk_lt (g:=gb338) (o:=.cells #[.slice A0_0 l0_0.length c0_0,.int .u64 a0_1,.slice A0_2 l0_2.length c0_2] 26 (0,0)) (vK BK338.out)):gb338≠gb347));have n8_:=Aside0.mk ((by rw [hg];exact Nat.ne_of_gt (blk_lt (g:=gb338) (o:=.cells #[.slice A0_0 l0_0.length c0_0,.int .u64 a0_1,.slice A0_2 l0_2.length c0_2] 26 (0,0)) (vK BK338.out)):gb347≠gb338));clear HO341;clear HO345;clear BK338;clear HB;have HO341:=n0_;have HO345:=n1_;have BK338:=n2_;have HB:=n3_;have BK347:=n4_;have GW347:=n5_;have GE347:=n6_;have NB338_347:=n7_;have NB347_338:=n8_;clear n0_ n1_ n2_ n3_ n4_ n5_ n6_ n7_ n8_;clear hb hbox hg;obtain ⟨Ao21,co21,eo21⟩:=Kd.R_slice HO341.out;subst eo21;have hnb22:=NB347_338.out;have hnc22:=NB338_347.out;have hcz23_0:w20.cell? ⟨gb347,0,none⟩ = some (.slice none 0 0):=(blk_cell BK347.out 0).trans rfl;have hcz23_1:w20.cell? ⟨gb347,1,none⟩ = some (.int .u64 0):=(blk_cell BK347.out 1).trans rfl;have hcz23_2:w20.cell? ⟨gb347,2,none⟩ = some (.slice none 0 0):=(blk_cell BK347.out 2).trans rfl;have hfz23_0:=blk_frozen BK347.out 0;have hfz23_1:=blk_frozen BK347.out 1;have hfz23_2:=blk_frozen BK347.out 2;obtain ⟨Ao24,co24,eo24⟩:=Kd.R_slice HO345.out;subst eo24;have hcz25_0:w20.cell? ⟨gb338,0,none⟩ = some (.slice A0_0 l0_0.length c0_0):=(blk_cell BK338.out 0).trans rfl;have hcz25_1:w20.cell? ⟨gb338,1,none⟩ = some (.int .u64 a0_1):=(blk_cell BK338.out 1).trans rfl;have hcz25_2:w20.cell? ⟨gb338,2,none⟩ = some (.slice A0_2 l0_2.length c0_2):=(blk_cell BK338.out 2).trans rfl;have hfz25_0:=blk_frozen BK338.out 0;have hfz25_1:=blk_frozen BK338.out 1;have hfz25_2:=blk_frozen BK338.out 2) | (go_at_call 21;(with_reducible refine (sconceref03_Same.calls k _ _ t339 _ _ l0_0 true _ ?side1 ?side2 ?side3 ?side4 A4.out).mono ?_);(case side1 => refine (Kd.R_reads' (e:=24) (base:=w.heap.size) (ok:=fun k_ => some k_≠(.slice Ao24 t343.length co24:Value).ownBlock) (n:=t339.length) (c:=co21) ?_).2.2;exact (by (with_reducible repeat (first | apply Kd.R_alloc | apply Kd.R_drewN | apply Kd.R_drew));exact (Kd.R_mono (Kd.R_far (p:=⟨gb347,2,none⟩) (Kd.R_far (p:=⟨gb347,1,none⟩) (Kd.R_far (p:=⟨gb347,0,none⟩) (Kd.R_types HO341.out BK347.out (by decide)) (fun _ hk => hk.2) (.slice Ao21 t339.length co21)) (fun _ hk => hk.2) (.int .u64 t342)) (fun _ hk => hk.2) (.slice Ao24 t343.length co24)) (fun _ h_ => h_.1))));(case side2 => exact (Kd.R_reads' HO341.out).2.1);(case side3 => exact Kd.C_below HR0_0.out (by repeat (first | (with_reducible first | exact HB.out | apply below_alloc | apply pw_below_drewN | apply below_drew1 | refine below_set ?_ GE338.out | refine below_set ?_ GE347.out) | exact HB.out)));(case side4 => exact HC0_0.out);rintro e w' ⟨rfl,⟨nd,rfl⟩⟩))
    go_ret
    exact ⟨by first | rfl | (simp [errW_none,errW_some] <;> rfl) | (simp [*,errW_none,errW_some] <;> rfl),by repeat (first | (with_reducible first | exact HB.out | apply below_alloc | apply pw_below_drewN | apply below_drew1 | refine below_set ?_ GE338.out | refine below_set ?_ GE347.out) | exact HB.out)⟩
  ·
   replace c5:=Bool.eq_false_iff.mpr c5
   subst c5
   have H1:(some false) = some r:=by rw [if_neg (show ¬ (false = true) by decide)] at H;exact H
   clear H
   have H:=H1
   clear H1
   obtain rfl:=Option.some.inj H
   go_enter Try.func80,Try.ntmps80
   go_wp2_with (first | ((with_reducible refine gate_dst (N:=1) rfl ?_);refine box_event ?hg (N:=1) ?hd (cs:=#[.slice A0_0 l0_0.length c0_0,.int .u64 a0_1,.slice A0_2 l0_2.length c0_2]) (t:=26) ?hr ?_;(case hd => rfl);(case hg => rfl);(case hr => first | (go_simp;done) | (go_simp;rfl));intro gb338 hg w26 hbox hb;have n0_:=Aside0.mk (below_step (vB HB.out) hb);have n1_:=Aside0.mk (hbox);have n2_:=Aside0.mk ((by rw [hg];exact (below_size (vB HB.out)):w.heap.size≤gb338));have n3_:=Aside0.mk ((by rw [hg];exact (below_size (vB HB.out)):w.heap.size≤gb338));clear HB;have HB:=n0_;have BK338:=n1_;have GW338:=n2_;have GE338:=n3_;clear n0_ n1_ n2_ n3_;clear hb hbox hg;have hcz27_0:w26.cell? ⟨gb338,0,none⟩ = some (.slice A0_0 l0_0.length c0_0):=(blk_cell BK338.out 0).trans rfl;have hcz27_1:w26.cell? ⟨gb338,1,none⟩ = some (.int .u64 a0_1):=(blk_cell BK338.out 1).trans rfl;have hcz27_2:w26.cell? ⟨gb338,2,none⟩ = some (.slice A0_2 l0_2.length c0_2):=(blk_cell BK338.out 2).trans rfl;have hfz27_0:=blk_frozen BK338.out 0;have hfz27_1:=blk_frozen BK338.out 1;have hfz27_2:=blk_frozen BK338.out 2) | ((with_reducible refine gate_callee (f:=62) rfl ?_);refine goesL_ (some 8) rfl rfl Try.func62 (by kernel_rfl) rfl #[.slice A0_0 l0_0.length c0_0] rfl vA ?_;(with_reducible refine (sconceref06_Setup.calls k _ _ l0_0 t339 t342 t343 t346 _ ?side1 ?side2 A2.out).mono ?_);(case side1 => repeat (first | exact (Kd.C_below HR0_0.out HB.out) | (with_reducible refine Kd.C_alloc ?_ _) | (with_reducible refine Kd.C_drewN ?_ _) | (with_reducible refine Kd.C_drew ?_)));(case side2 => exact HC0_0.out);rintro e w28 ⟨v340,v344,rfl,ho0,ho1,hb⟩;refine ⟨_,rfl,?_⟩;have n0_:=Aside0.mk (Kd.R_lower ho0 (below_size (vBg HB.out GE338.out)));have n1_:=Aside0.mk (Kd.R_lower ho1 (below_size (vBg HB.out GE338.out)));have n2_:=Aside0.mk (blk_below (g:=gb338) (o:=.cells #[.slice A0_0 l0_0.length c0_0,.int .u64 a0_1,.slice A0_2 l0_2.length c0_2] 26 (0,0)) (vK BK338.out) hb);have n3_:=Aside0.mk (below_step (vBg HB.out GE338.out) hb);clear BK338;clear HB;have HO341:=n0_;have HO345:=n1_;have BK338:=n2_;have HB:=n3_;clear n0_ n1_ n2_ n3_;(try clear hb);(try clear hb2);(try clear hk);(try clear hi);(try clear ho0);(try clear ho1)) | ((with_reducible refine gate_dst (N:=3) rfl ?_);refine box_event ?hg (N:=3) ?hd (cs:=#[.slice none 0 0,.int .u64 0,.slice none 0 0]) (t:=26) ?hr ?_;(case hd => rfl);(case hg => rfl);(case hr => first | (go_simp;done) | (go_simp;rfl));intro gb347 hg w29 hbox hb;have n0_:=Aside0.mk (Kd.R_below (vR HO341.out) hb);have n1_:=Aside0.mk (Kd.R_below (vR HO345.out) hb);have n2_:=Aside0.mk (blk_below (g:=gb338) (o:=.cells #[.slice A0_0 l0_0.length c0_0,.int .u64 a0_1,.slice A0_2 l0_2.length c0_2] 26 (0,0)) (vK BK338.out) hb);have n3_:=Aside0.mk (below_step (vBg HB.out GE338.out) hb);have n4_:=Aside0.mk (hbox);have n5_:=Aside0.mk ((by rw [hg];exact (below_size (vBg HB.out GE338.out)):w.heap.size≤gb347));have n6_:=Aside0.mk ((by rw [hg];exact (below_size (vBg HB.out GE338.out)):w.heap.size≤gb347));have n7_:=Aside0.mk ((by rw [hg];exact Nat.ne_of_lt (blk_lt (g:=gb338) (o:=.cells #[.slice A0_0 l0_0.length c0_0,.int .u64 a0_1,.slice A0_2 l0_2.length c0_2] 26 (0,0)) (vK BK338.out)):gb338≠gb347));have n8_:=Aside0.mk ((by rw [hg];exact Nat.ne_of_gt (blk_lt (g:=gb338) (o:=.cells #[.slice A0_0 l0_0.length c0_0,.int .u64 a0_1,.slice A0_2 l0_2.length c0_2] 26 (0,0)) (vK BK338.out)):gb347≠gb338));clear HO341;clear HO345;clear BK338;clear HB;have HO341:=n0_;have HO345:=n1_;have BK338:=n2_;have HB:=n3_;have BK347:=n4_;have GW347:=n5_;have GE347:=n6_;have NB338_347:=n7_;have NB347_338:=n8_;clear n0_ n1_ n2_ n3_ n4_ n5_ n6_ n7_ n8_;clear hb hbox hg;obtain ⟨Ao30,co30,eo30⟩:=Kd.R_slice HO341.out;subst eo30;have hnb31:=NB347_338.out;have hnc31:=NB338_347.out;have hcz32_0:w29.cell? ⟨gb347,0,none⟩ = some (.slice none 0 0):=(blk_cell BK347.out 0).trans rfl;have hcz32_1:w29.cell? ⟨gb347,1,none⟩ = some (.int .u64 0):=(blk_cell BK347.out 1).trans rfl;have hcz32_2:w29.cell? ⟨gb347,2,none⟩ = some (.slice none 0 0):=(blk_cell BK347.out 2).trans rfl;have hfz32_0:=blk_frozen BK347.out 0;have hfz32_1:=blk_frozen BK347.out 1;have hfz32_2:=blk_frozen BK347.out 2;obtain ⟨Ao33,co33,eo33⟩:=Kd.R_slice HO345.out;subst eo33;have hcz34_0:w29.cell? ⟨gb338,0,none⟩ = some (.slice A0_0 l0_0.length c0_0):=(blk_cell BK338.out 0).trans rfl;have hcz34_1:w29.cell? ⟨gb338,1,none⟩ = some (.int .u64 a0_1):=(blk_cell BK338.out 1).trans rfl;have hcz34_2:w29.cell? ⟨gb338,2,none⟩ = some (.slice A0_2 l0_2.length c0_2):=(blk_cell BK338.out 2).trans rfl;have hfz34_0:=blk_frozen BK338.out 0;have hfz34_1:=blk_frozen BK338.out 1;have hfz34_2:=blk_frozen BK338.out 2) | (go_at_call 21;(with_reducible refine (sconceref03_Same.calls k _ _ t339 _ _ l0_0 false _ ?side1 ?side2 ?side3 ?side4 A4.out).mono ?_);(case side1 => refine (Kd.R_reads' (e:=24) (base:=w.heap.size) (ok:=fun k_ => some k_≠(.slice Ao33 t343.length co33:Value).ownBlock) (n:=t339.length) (c:=co30) ?_).2.2;exact (by (with_reducible repeat (first | apply Kd.R_alloc | apply Kd.R_drewN | apply Kd.R_drew));exact (Kd.R_mono (Kd.R_far (p:=⟨gb347,2,none⟩) (Kd.R_far (p:=⟨gb347,1,none⟩) (Kd.R_far (p:=⟨gb347,0,none⟩) (Kd.R_types HO341.out BK347.out (by decide)) (fun _ hk => hk.2) (.slice Ao30 t339.length co30)) (fun _ hk => hk.2) (.int .u64 t342)) (fun _ hk => hk.2) (.slice Ao33 t343.length co33)) (fun _ h_ => h_.1))));(case side2 => exact (Kd.R_reads' HO341.out).2.1);(case side3 => exact Kd.C_below HR0_0.out (by repeat (first | (with_reducible first | exact HB.out | apply below_alloc | apply pw_below_drewN | apply below_drew1 | refine below_set ?_ GE338.out | refine below_set ?_ GE347.out) | exact HB.out)));(case side4 => exact HC0_0.out);rintro e w' ⟨rfl,⟨nd,rfl⟩⟩))
   go_ret
   exact ⟨by first | rfl | (simp [errW_none,errW_some] <;> rfl) | (simp [*,errW_none,errW_some] <;> rfl),by repeat (first | (with_reducible first | exact HB.out | apply below_alloc | apply pw_below_drewN | apply below_drew1 | refine below_set ?_ GE338.out | refine below_set ?_ GE347.out) | exact HB.out)⟩
 ·
  rw [if_neg c3] at H
  have c3b0:(t346 == 0) = false:=beq_eq_false_iff_ne.mpr c3
  have c3b1:(t346 != 0) = true:=bne_iff_ne.mpr c3
  obtain rfl:=Option.some.inj H
  go_enter Try.func80,Try.ntmps80
  go_wp2_with (first | ((with_reducible refine gate_dst (N:=1) rfl ?_);refine box_event ?hg (N:=1) ?hd (cs:=#[.slice A0_0 l0_0.length c0_0,.int .u64 a0_1,.slice A0_2 l0_2.length c0_2]) (t:=26) ?hr ?_;(case hd => rfl);(case hg => rfl);(case hr => first | (go_simp;done) | (go_simp;rfl));intro gb338 hg w35 hbox hb;have n0_:=Aside0.mk (below_step (vB HB.out) hb);have n1_:=Aside0.mk (hbox);have n2_:=Aside0.mk ((by rw [hg];exact (below_size (vB HB.out)):w.heap.size≤gb338));have n3_:=Aside0.mk ((by rw [hg];exact (below_size (vB HB.out)):w.heap.size≤gb338));clear HB;have HB:=n0_;have BK338:=n1_;have GW338:=n2_;have GE338:=n3_;clear n0_ n1_ n2_ n3_;clear hb hbox hg;have hcz36_0:w35.cell? ⟨gb338,0,none⟩ = some (.slice A0_0 l0_0.length c0_0):=(blk_cell BK338.out 0).trans rfl;have hcz36_1:w35.cell? ⟨gb338,1,none⟩ = some (.int .u64 a0_1):=(blk_cell BK338.out 1).trans rfl;have hcz36_2:w35.cell? ⟨gb338,2,none⟩ = some (.slice A0_2 l0_2.length c0_2):=(blk_cell BK338.out 2).trans rfl;have hfz36_0:=blk_frozen BK338.out 0;have hfz36_1:=blk_frozen BK338.out 1;have hfz36_2:=blk_frozen BK338.out 2) | ((with_reducible refine gate_callee (f:=62) rfl ?_);refine goesL_ (some 8) rfl rfl Try.func62 (by kernel_rfl) rfl #[.slice A0_0 l0_0.length c0_0] rfl vA ?_;(with_reducible refine (sconceref06_Setup.calls k _ _ l0_0 t339 t342 t343 t346 _ ?side1 ?side2 A2.out).mono ?_);(case side1 => repeat (first | exact (Kd.C_below HR0_0.out HB.out) | (with_reducible refine Kd.C_alloc ?_ _) | (with_reducible refine Kd.C_drewN ?_ _) | (with_reducible refine Kd.C_drew ?_)));(case side2 => exact HC0_0.out);rintro e w37 ⟨v340,v344,rfl,ho0,ho1,hb⟩;refine ⟨_,rfl,?_⟩;have n0_:=Aside0.mk (Kd.R_lower ho0 (below_size (vBg HB.out GE338.out)));have n1_:=Aside0.mk (Kd.R_lower ho1 (below_size (vBg HB.out GE338.out)));have n2_:=Aside0.mk (blk_below (g:=gb338) (o:=.cells #[.slice A0_0 l0_0.length c0_0,.int .u64 a0_1,.slice A0_2 l0_2.length c0_2] 26 (0,0)) (vK BK338.out) hb);have n3_:=Aside0.mk (below_step (vBg HB.out GE338.out) hb);clear BK338;clear HB;have HO341:=n0_;have HO345:=n1_;have BK338:=n2_;have HB:=n3_;clear n0_ n1_ n2_ n3_;(try clear hb);(try clear hb2);(try clear hk);(try clear hi);(try clear ho0);(try clear ho1)) | ((with_reducible refine gate_dst (N:=3) rfl ?_);refine box_event ?hg (N:=3) ?hd (cs:=#[.slice none 0 0,.int .u64 0,.slice none 0 0]) (t:=26) ?hr ?_;(case hd => rfl);(case hg => rfl);(case hr => first | (go_simp;done) | (go_simp;rfl));intro gb347 hg w38 hbox hb;have n0_:=Aside0.mk (Kd.R_below (vR HO341.out) hb);have n1_:=Aside0.mk (Kd.R_below (vR HO345.out) hb);have n2_:=Aside0.mk (blk_below (g:=gb338) (o:=.cells #[.slice A0_0 l0_0.length c0_0,.int .u64 a0_1,.slice A0_2 l0_2.length c0_2] 26 (0,0)) (vK BK338.out) hb);have n3_:=Aside0.mk (below_step (vBg HB.out GE338.out) hb);have n4_:=Aside0.mk (hbox);have n5_:=Aside0.mk ((by rw [hg];exact (below_size (vBg HB.out GE338.out)):w.heap.size≤gb347));have n6_:=Aside0.mk ((by rw [hg];exact (below_size (vBg HB.out GE338.out)):w.heap.size≤gb347));have n7_:=Aside0.mk ((by rw [hg];exact Nat.ne_of_lt (blk_lt (g:=gb338) (o:=.cells #[.slice A0_0 l0_0.length c0_0,.int .u64 a0_1,.slice A0_2 l0_2.length c0_2] 26 (0,0)) (vK BK338.out)):gb338≠gb347));have n8_:=Aside0.mk ((by rw [hg];exact Nat.ne_of_gt (blk_lt (g:=gb338) (o:=.cells #[.slice A0_0 l0_0.length c0_0,.int .u64 a0_1,.slice A0_2 l0_2.length c0_2] 26 (0,0)) (vK BK338.out)):gb347≠gb338));clear HO341;clear HO345;clear BK338;clear HB;have HO341:=n0_;have HO345:=n1_;have BK338:=n2_;have HB:=n3_;have BK347:=n4_;have GW347:=n5_;have GE347:=n6_;have NB338_347:=n7_;have NB347_338:=n8_;clear n0_ n1_ n2_ n3_ n4_ n5_ n6_ n7_ n8_;clear hb hbox hg;obtain ⟨Ao39,co39,eo39⟩:=Kd.R_slice HO341.out;subst eo39;have hnb40:=NB347_338.out;have hnc40:=NB338_347.out;have hcz41_0:w38.cell? ⟨gb347,0,none⟩ = some (.slice none 0 0):=(blk_cell BK347.out 0).trans rfl;have hcz41_1:w38.cell? ⟨gb347,1,none⟩ = some (.int .u64 0):=(blk_cell BK347.out 1).trans rfl;have hcz41_2:w38.cell? ⟨gb347,2,none⟩ = some (.slice none 0 0):=(blk_cell BK347.out 2).trans rfl;have hfz41_0:=blk_frozen BK347.out 0;have hfz41_1:=blk_frozen BK347.out 1;have hfz41_2:=blk_frozen BK347.out 2;obtain ⟨Ao42,co42,eo42⟩:=Kd.R_slice HO345.out;subst eo42))
  go_ret
  exact ⟨by first | rfl | (simp [errW_none,errW_some] <;> rfl) | (simp [*,errW_none,errW_some] <;> rfl),by repeat (first | (with_reducible first | exact HB.out | apply below_alloc | apply pw_below_drewN | apply below_drew1 | refine below_set ?_ GE338.out | refine below_set ?_ GE347.out) | exact HB.out)⟩
def sconceref06_Member.f (k:Nat) (l0_0:List Int) (a0_1:Int) (l0_2:List Int) (l1:List Int):Option (Bool):=if (l1.length:Int) = (l0_0.length:Int) then ((sconceref03_Of.f k l1).bind fun t351 => ((sconceref03_Of.f k l0_0).bind fun t354 => ((sconceref03_Cmp.f k t351 t354).bind fun t357 => (some (decide (t357 < 0)))))) else (some false)
def sconceref06_Member.T1:Bool × List (List Nat × List Nat):=(true,[([],[]),([0],[0]),([],[]),([2],[2]),([3],[3]),([1,4],[1,4]),([5],[5]),([6],[6]),([7,6,6],[6,7]),([6],[6]),([9,6],[6,9]),([10,8,6],[6,10]),([8,11,11,6],[6,8,11]),([12,6],[6,12]),([6,13],[6,13]),([14,12,0,1,2,3,4,5,6,7,8,9,10,11,12,13,14],[14])])
def sconceref06_Member.B1:List Nat:=[0,1,0,4,12,31,63,127,255,127,639,2047,4095,8191,16383,32767]
theorem sconceref06_Member.tab1:rtab .any (opsOf Try.f81 1) = sconceref06_Member.T1:=by kernel_rfl
theorem sconceref06_Member.bits1:waitsOk sconceref06_Member.T1.2 sconceref06_Member.B1 = true:=by kernel_rfl
theorem sconceref06_Member.calls (k:Nat) (A0_0:Option Addr) (c0_0:Nat) (l0_0:List Int) (a0_1:Int) (A0_2:Option Addr) (c0_2:Nat) (l0_2:List Int) (A1:Option Addr) (c1:Nat) (l1:List Int) (r:Bool) (w:World) (hr0_0:Kd.C (Kd.int .u64) w A0_0 l0_0.length l0_0) (hc0_0:l0_0.length≤c0_0) (hr0_2:Kd.C (Kd.int .u64) w A0_2 l0_2.length l0_2) (hc0_2:l0_2.length≤c0_2) (hr1:Kd.C (Kd.int .u64) w A1 l1.length l1) (hc1:l1.length≤c1) (h:sconceref06_Member.f k l0_0 a0_1 l0_2 l1 = some r) :
  Calls Try.prog 81 #[.agg #[.slice A0_0 l0_0.length c0_0,.int .u64 a0_1,.slice A0_2 l0_2.length c0_2],.slice A1 l1.length c1] w fun e w' => e = .returned (.bool r)∧Below w.heap.size w w':=by
 have hu26:=Try.underlying26
 have HR0_0:=Aside0.mk hr0_0
 have HC0_0:=Aside0.mk hc0_0
 clear hr0_0 hc0_0
 have HR0_2:=Aside0.mk hr0_2
 have HC0_2:=Aside0.mk hc0_2
 clear hr0_2 hc0_2
 have HR1:=Aside0.mk hr1
 have HC1:=Aside0.mk hc1
 clear hr1 hc1
 have HB:=Aside0.mk (Below.refl w.heap.size w)
 have H:(if (l1.length:Int) = (l0_0.length:Int) then ((sconceref03_Of.f k l1).bind fun t351 => ((sconceref03_Of.f k l0_0).bind fun t354 => ((sconceref03_Cmp.f k t351 t354).bind fun t357 => (some (decide (t357 < 0)))))) else (some false)) = some r:=h
 clear h
 by_cases c3:(l1.length:Int) = (l0_0.length:Int)
 ·
  rw [if_pos c3] at H
  have c3b0:((l1.length:Int) == (l0_0.length:Int)) = true:=beq_iff_eq.mpr c3
  have c3b1:((l1.length:Int) != (l0_0.length:Int)) = false:=bne_eq_false_iff_eq.mpr c3
  have c3b2:(l1.length == l0_0.length) = true:=by first | simpa using c3 | (simp at c3 ⊢;omega)
  clear c3
  replace H:=Option.bind_eq_some_iff.mp H
  obtain ⟨t351,A40,H⟩:=H
  replace H:((sconceref03_Of.f k l0_0).bind fun t354 => ((sconceref03_Cmp.f k t351 t354).bind fun t357 => (some (decide (t357 < 0))))) = some r:=H
  have A4:=Aside0.mk A40
  clear A40
  replace H:=Option.bind_eq_some_iff.mp H
  obtain ⟨t354,A50,H⟩:=H
  replace H:((sconceref03_Cmp.f k t351 t354).bind fun t357 => (some (decide (t357 < 0)))) = some r:=H
  have A5:=Aside0.mk A50
  clear A50
  replace H:=Option.bind_eq_some_iff.mp H
  obtain ⟨t357,A60,H⟩:=H
  replace H:(some (decide (t357 < 0))) = some r:=H
  have A6:=Aside0.mk A60
  clear A60
  obtain rfl:=Option.some.inj H
  go_enter Try.func81,Try.ntmps81
  try go_wp2_with (first | ((with_reducible refine gate_dst (N:=2) rfl ?_);refine box_event ?hg (N:=2) ?hd (cs:=#[.slice A0_0 l0_0.length c0_0,.int .u64 a0_1,.slice A0_2 l0_2.length c0_2]) (t:=26) ?hr ?_;(case hd => rfl);(case hg => rfl);(case hr => first | (go_simp;done) | (go_simp;rfl));intro gb350 hg w7 hbox hb;have n0_:=Aside0.mk (below_step (vB HB.out) hb);have n1_:=Aside0.mk (hbox);have n2_:=Aside0.mk ((by rw [hg];exact (below_size (vB HB.out)):w.heap.size≤gb350));have n3_:=Aside0.mk ((by rw [hg];exact (below_size (vB HB.out)):w.heap.size≤gb350));clear HB;have HB:=n0_;have BK350:=n1_;have GW350:=n2_;have GE350:=n3_;clear n0_ n1_ n2_ n3_;clear hb hbox hg))
  have n0_:=Aside0.mk (blk_drew BK350.out)
  have n1_:=Aside0.mk (below_drew1 HB.out)
  clear BK350
  clear HB
  have BK350:=n0_
  have HB:=n1_
  clear n0_ n1_
  refine start_ (n:=16) (S:=fun w' => w'.cell? ⟨gb350,0,none⟩ = some (.slice A0_0 l0_0.length c0_0)∧w'.cell? ⟨gb350,1,none⟩ = some (.int .u64 a0_1)∧w'.cell? ⟨gb350,2,none⟩ = some (.slice A0_2 l0_2.length c0_2)) (ds:=[]) #[false,false,false,false,false,false,false,false,false,false,false,false,false,false,false,false] (by kernel_rfl) rfl rfl ⟨(blk_cell BK350.out 0).trans rfl,(blk_cell BK350.out 1).trans rfl,(blk_cell BK350.out 2).trans rfl⟩ (fun hHeld => ?_);refine with_tabW sconceref06_Member.tab1 sconceref06_Member.bits1 (fun HT_ HW_ => ?_)
  generalize w7.drew = w8 at BK350 HB hHeld ⊢
  refine pure_ (i:=0) (N:=some 5) (v:=?_) (a':=?_) #[true,false,false,false,false,false,false,false,false,false,false,false,false,false,false,false] rfl rfl (any_of HT_.out (by kernel_rfl)) (fun _ _ _ h => h) (Or.inl ⟨by rfl,?_⟩) ?_ ?_
  rotate_left
  ·
   exact vQ
  rotate_left
  ·
   exact vP
  refine pure_ (i:=1) (N:=some 6) (v:=?_) (a':=?_) #[true,true,false,false,false,false,false,false,false,false,false,false,false,false,false,false] rfl rfl (any_of HT_.out (by kernel_rfl)) (fun _ _ _ h => h) (Or.inl ⟨by rfl,?_⟩) ?_ ?_
  rotate_left
  ·
   exact vQ
  rotate_left
  ·
   exact vP
  refine pure_ (i:=2) (N:=some 7) (v:=?_) (a':=?_) #[true,true,true,false,false,false,false,false,false,false,false,false,false,false,false,false] rfl rfl (any_of HT_.out (by kernel_rfl)) (fun _ _ _ h => h) (Or.inl ⟨by rfl,?_⟩) ?_ ?_
  rotate_left
  ·
   exact vQ
  rotate_left
  ·
   exact vP
  refine take_ (i:=3) (N:=some 8) (v:=?_) (a':=?_) #[true,true,true,true,false,false,false,false,false,false,false,false,false,false,false,false] rfl rfl (take_ofW HT_.out HW_.out (by kernel_rfl)) (fun _ _ _ h => h) (Or.inl ⟨by rfl,?_⟩) hHeld ?_ ?_
  rotate_left
  ·
   rintro w' ⟨s0,s1,s2⟩
   go_simp
   with_reducible rfl
  rotate_left
  ·
   exact vP
  refine pure_ (i:=4) (N:=some 9) (v:=?_) (a':=?_) #[true,true,true,true,true,false,false,false,false,false,false,false,false,false,false,false] rfl rfl (any_of HT_.out (by kernel_rfl)) (fun _ _ _ h => h) (Or.inl ⟨by rfl,?_⟩) ?_ ?_
  rotate_left
  ·
   exact vQ
  rotate_left
  ·
   exact vP
  refine pure_ (i:=5) (N:=some 10) (v:=?_) (a':=?_) #[true,true,true,true,true,true,false,false,false,false,false,false,false,false,false,false] rfl rfl (any_of HT_.out (by kernel_rfl)) (fun _ _ _ h => h) (Or.inl ⟨by rfl,?_⟩) ?_ ?_
  rotate_left
  ·
   exact vQ
  rotate_left
  ·
   exact vP
  refine pure_ (i:=6) (N:=some 11) (v:=?_) (a':=?_) #[true,true,true,true,true,true,true,false,false,false,false,false,false,false,false,false] rfl rfl (any_of HT_.out (by kernel_rfl)) (fun _ _ _ h => h) (Or.inl ⟨by rfl,?_⟩) ?_ ?_
  rotate_left
  ·
   exact vQ
  rotate_left
  ·
   exact vP
  refine pure_ (i:=7) (N:=some 12) (v:=?_) (a':=?_) #[true,true,true,true,true,true,true,true,false,false,false,false,false,false,false,false] rfl rfl (any_of HT_.out (by kernel_rfl)) (fun _ _ _ h => h) (Or.inl ⟨by rfl,?_⟩) ?_ ?_
  rotate_left
  ·
   exact vQ
  rotate_left
  ·
   exact vP
  refine pure_ (i:=9) (N:=some 14) (v:=?_) (a':=?_) #[true,true,true,true,true,true,true,true,false,true,false,false,false,false,false,false] rfl rfl (any_of HT_.out (by kernel_rfl)) (fun _ _ _ h => h) (Or.inl ⟨by rfl,?_⟩) ?_ ?_
  rotate_left
  ·
   exact vQ
  rotate_left
  ·
   exact vP
  refine take_ (i:=10) (N:=some 15) (v:=?_) (a':=?_) #[true,true,true,true,true,true,true,true,false,true,true,false,false,false,false,false] rfl rfl (take_ofW HT_.out HW_.out (by kernel_rfl)) (fun _ _ _ h => h) (Or.inl ⟨by rfl,?_⟩) hHeld ?_ ?_
  rotate_left
  ·
   rintro w' ⟨s0,s1,s2⟩
   go_simp
   with_reducible rfl
  rotate_left
  ·
   exact vP
  refine one_ (i:=8) (N:=some 13) #[true,true,true,true,true,true,true,true,true,true,true,false,false,false,false,false] rfl rfl (one_of HT_.out (by kernel_rfl)) (by decide) (fun K hK => ?_)
  refine goes_ Try.func47 (by kernel_rfl) rfl #[.slice A1 l1.length c1] (by rfl) rfl rfl vA ?_
  with_reducible refine (sconceref03_Of.calls k _ _ l1 t351 _ ?side1 ?side2 A4.out).mono ?_
  (case side1 => repeat (first | exact (Kd.C_below HR1.out HB.out) | (with_reducible refine Kd.C_alloc ?_ _) | (with_reducible refine Kd.C_drewN ?_ _) | (with_reducible refine Kd.C_drew ?_)))
  (case side2 => exact HC1.out)
  rintro e w9 ⟨v352,rfl,ho0,hb⟩
  refine ⟨_,rfl,?_⟩
  have n0_:=Aside0.mk (Kd.V_lower (Kd.V_mono (ok':=fun k_ => k_≠gb350) ho0 (fun k_ hk_ => (Kd.freshB (g:=gb350) (o:=.cells #[.slice A0_0 l0_0.length c0_0,.int .u64 a0_1,.slice A0_2 l0_2.length c0_2] 26 (0,0)) (vK BK350.out) k_ hk_))) (below_size (vBg HB.out GE350.out)))
  have n1_:=Aside0.mk (blk_below (g:=gb350) (o:=.cells #[.slice A0_0 l0_0.length c0_0,.int .u64 a0_1,.slice A0_2 l0_2.length c0_2] 26 (0,0)) (vK BK350.out) hb)
  have n2_:=Aside0.mk (below_step (vBg HB.out GE350.out) hb)
  clear BK350
  clear HB
  have HO353:=n0_
  have BK350:=n1_
  have HB:=n2_
  clear n0_ n1_ n2_
  (try clear hb)
  (try clear hb2)
  (try clear hk)
  (try clear hi)
  (try clear ho0)
  refine hK.out _ _ ⟨(blk_cell BK350.out 0).trans rfl,(blk_cell BK350.out 1).trans rfl,(blk_cell BK350.out 2).trans rfl⟩ (fun hHeld => ?_)
  clear hK K
  refine norm_ (a':=?_) ?_ ?_
  rotate_left
  ·
   show Act.put _ (some 13) _ = _
   simp only [Act.put,List.setIfInBounds_toArray,List.set_cons_zero,List.set_cons_succ,i64_w,i32_w]
   rfl
  refine one_ (i:=11) (N:=some 16) #[true,true,true,true,true,true,true,true,true,true,true,true,false,false,false,false] rfl rfl (one_of HT_.out (by kernel_rfl)) (by decide) (fun K hK => ?_)
  refine goes_ Try.func47 (by kernel_rfl) rfl #[.slice A0_0 l0_0.length c0_0] (by rfl) rfl rfl vA ?_
  with_reducible refine (sconceref03_Of.calls k _ _ l0_0 t354 _ ?side1 ?side2 A5.out).mono ?_
  (case side1 => repeat (first | exact (Kd.C_below HR0_0.out HB.out) | (with_reducible refine Kd.C_alloc ?_ _) | (with_reducible refine Kd.C_drewN ?_ _) | (with_reducible refine Kd.C_drew ?_)))
  (case side2 => exact HC0_0.out)
  rintro e w10 ⟨v355,rfl,ho0,hb⟩
  refine ⟨_,rfl,?_⟩
  have n0_:=Aside0.mk (Kd.V_below (vV HO353.out) hb)
  have n1_:=Aside0.mk (Kd.V_lower (Kd.V_mono (ok':=fun k_ => k_≠gb350) ho0 (fun k_ hk_ => (Kd.freshB (g:=gb350) (o:=.cells #[.slice A0_0 l0_0.length c0_0,.int .u64 a0_1,.slice A0_2 l0_2.length c0_2] 26 (0,0)) (vK BK350.out) k_ hk_))) (below_size (vBg HB.out GE350.out)))
  have n2_:=Aside0.mk (blk_below (g:=gb350) (o:=.cells #[.slice A0_0 l0_0.length c0_0,.int .u64 a0_1,.slice A0_2 l0_2.length c0_2] 26 (0,0)) (vK BK350.out) hb)
  have n3_:=Aside0.mk (below_step (vBg HB.out GE350.out) hb)
  clear HO353
  clear BK350
  clear HB
  have HO353:=n0_
  have HO356:=n1_
  have BK350:=n2_
  have HB:=n3_
  clear n0_ n1_ n2_ n3_
  (try clear hb)
  (try clear hb2)
  (try clear hk)
  (try clear hi)
  (try clear ho0)
  obtain ⟨Ao11,co11,eo11⟩:=Kd.V_slice HO353.out
  (first | subst eo11 | (injection eo11 with f1_ f2_ f3_;have f4_:=f1_.symm;have f5_:=f3_.symm;clear f1_ f2_ f3_;subst f4_;subst f5_))
  obtain ⟨Ao12,co12,eo12⟩:=Kd.V_slice HO356.out
  (first | subst eo12 | (injection eo12 with f1_ f2_ f3_;have f4_:=f1_.symm;have f5_:=f3_.symm;clear f1_ f2_ f3_;subst f4_;subst f5_))
  refine hK.out _ _ ⟨(blk_cell BK350.out 0).trans rfl,(blk_cell BK350.out 1).trans rfl,(blk_cell BK350.out 2).trans rfl⟩ (fun hHeld => ?_)
  clear hK K
  refine norm_ (a':=?_) ?_ ?_
  rotate_left
  ·
   show Act.put _ (some 16) _ = _
   simp only [Act.put,List.setIfInBounds_toArray,List.set_cons_zero,List.set_cons_succ,i64_w,i32_w]
   rfl
  refine one_ (i:=12) (N:=some 17) #[true,true,true,true,true,true,true,true,true,true,true,true,true,false,false,false] rfl rfl (one_of HT_.out (by kernel_rfl)) (by decide) (fun K hK => ?_)
  refine goes_ Try.func60 (by kernel_rfl) rfl #[.slice Ao11 t351.length co11,.slice Ao12 t354.length co12] (by rfl) rfl rfl vA ?_
  with_reducible refine (sconceref03_Cmp.calls k _ _ t351 _ _ t354 t357 _ ?side1 ?side2 ?side3 ?side4 A6.out).mono ?_
  (case side1 => repeat (first | exact (Kd.V_reads' HO353.out).2.2 | (with_reducible refine Kd.C_alloc ?_ _) | (with_reducible refine Kd.C_drewN ?_ _) | (with_reducible refine Kd.C_drew ?_)))
  (case side2 => exact (Kd.V_reads' HO353.out).2.1)
  (case side3 => repeat (first | exact (Kd.V_reads' HO356.out).2.2 | (with_reducible refine Kd.C_alloc ?_ _) | (with_reducible refine Kd.C_drewN ?_ _) | (with_reducible refine Kd.C_drew ?_)))
  (case side4 => exact (Kd.V_reads' HO356.out).2.1)
  rintro e w' ⟨rfl,⟨nd,rfl⟩⟩
  refine ⟨_,rfl,?_⟩
  refine hK.out _ _ ⟨(blk_cell BK350.out 0).trans rfl,(blk_cell BK350.out 1).trans rfl,(blk_cell BK350.out 2).trans rfl⟩ (fun hHeld => ?_)
  clear hK K
  refine norm_ (a':=?_) ?_ ?_
  rotate_left
  ·
   show Act.put _ (some 17) _ = _
   simp only [Act.put,List.setIfInBounds_toArray,List.set_cons_zero,List.set_cons_succ,i64_w,i32_w]
   rfl
  refine pure_ (i:=13) (N:=some 18) (v:=?_) (a':=?_) #[true,true,true,true,true,true,true,true,true,true,true,true,true,true,false,false] rfl rfl (any_of HT_.out (by kernel_rfl)) (fun _ _ _ h => h) (Or.inl ⟨by rfl,?_⟩) ?_ ?_
  rotate_left
  ·
   exact vQ
  rotate_left
  ·
   exact vP
  refine pure_ (i:=14) (N:=some 19) (v:=?_) (a':=?_) #[true,true,true,true,true,true,true,true,true,true,true,true,true,true,true,false] rfl rfl (any_of HT_.out (by kernel_rfl)) (fun _ _ _ h => h) (Or.inl ⟨by rfl,?_⟩) ?_ ?_
  rotate_left
  ·
   exact vQ
  rotate_left
  ·
   exact vP
  refine pure_ (i:=15) (N:=some 4) (v:=?_) (a':=?_) #[true,true,true,true,true,true,true,true,true,true,true,true,true,true,true,true] rfl rfl (any_of HT_.out (by kernel_rfl)) (fun _ _ _ h => h) (Or.inl ⟨by rfl,?_⟩) ?_ ?_
  rotate_left
  ·
   exact vQ
  rotate_left
  ·
   exact vP
  refine done_ (done_of HT_.out (by kernel_rfl)) ?_
  try go_wp2
  go_ret
  exact ⟨by first | rfl | (simp [errW_none,errW_some] <;> rfl) | (simp [*,errW_none,errW_some] <;> rfl),by repeat (first | (with_reducible first | exact HB.out | apply below_alloc | apply pw_below_drewN | apply below_drew1 | refine below_set ?_ GE350.out) | exact HB.out)⟩
 ·
  rw [if_neg c3] at H
  have c3b0:((l1.length:Int) == (l0_0.length:Int)) = false:=beq_eq_false_iff_ne.mpr c3
  have c3b1:((l1.length:Int) != (l0_0.length:Int)) = true:=bne_iff_ne.mpr c3
  have c3b2:(l1.length == l0_0.length) = false:=by first | simpa using c3 | (simp at c3 ⊢;omega)
  obtain rfl:=Option.some.inj H
  go_enter Try.func81,Try.ntmps81
  try go_wp2_with (first | ((with_reducible refine gate_dst (N:=2) rfl ?_);refine box_event ?hg (N:=2) ?hd (cs:=#[.slice A0_0 l0_0.length c0_0,.int .u64 a0_1,.slice A0_2 l0_2.length c0_2]) (t:=26) ?hr ?_;(case hd => rfl);(case hg => rfl);(case hr => first | (go_simp;done) | (go_simp;rfl));intro gb350 hg w13 hbox hb;have n0_:=Aside0.mk (below_step (vB HB.out) hb);have n1_:=Aside0.mk (hbox);have n2_:=Aside0.mk ((by rw [hg];exact (below_size (vB HB.out)):w.heap.size≤gb350));have n3_:=Aside0.mk ((by rw [hg];exact (below_size (vB HB.out)):w.heap.size≤gb350));clear HB;have HB:=n0_;have BK350:=n1_;have GW350:=n2_;have GE350:=n3_;clear n0_ n1_ n2_ n3_;clear hb hbox hg))
  have n0_:=Aside0.mk (blk_drew BK350.out)
  have n1_:=Aside0.mk (below_drew1 HB.out)
  clear BK350
  clear HB
  have BK350:=n0_
  have HB:=n1_
  clear n0_ n1_
  refine start_ (n:=16) (S:=fun w' => w'.cell? ⟨gb350,0,none⟩ = some (.slice A0_0 l0_0.length c0_0)∧w'.cell? ⟨gb350,1,none⟩ = some (.int .u64 a0_1)∧w'.cell? ⟨gb350,2,none⟩ = some (.slice A0_2 l0_2.length c0_2)) (ds:=[]) #[false,false,false,false,false,false,false,false,false,false,false,false,false,false,false,false] (by kernel_rfl) rfl rfl ⟨(blk_cell BK350.out 0).trans rfl,(blk_cell BK350.out 1).trans rfl,(blk_cell BK350.out 2).trans rfl⟩ (fun hHeld => ?_);refine with_tabW sconceref06_Member.tab1 sconceref06_Member.bits1 (fun HT_ HW_ => ?_)
  generalize w13.drew = w14 at BK350 HB hHeld ⊢
  refine pure_ (i:=0) (N:=some 5) (v:=?_) (a':=?_) #[true,false,false,false,false,false,false,false,false,false,false,false,false,false,false,false] rfl rfl (any_of HT_.out (by kernel_rfl)) (fun _ _ _ h => h) (Or.inl ⟨by rfl,?_⟩) ?_ ?_
  rotate_left
  ·
   exact vQ
  rotate_left
  ·
   exact vP
  refine pure_ (i:=1) (N:=some 6) (v:=?_) (a':=?_) #[true,true,false,false,false,false,false,false,false,false,false,false,false,false,false,false] rfl rfl (any_of HT_.out (by kernel_rfl)) (fun _ _ _ h => h) (Or.inl ⟨by rfl,?_⟩) ?_ ?_
  rotate_left
  ·
   exact vQ
  rotate_left
  ·
   exact vP
  refine pure_ (i:=2) (N:=some 7) (v:=?_) (a':=?_) #[true,true,true,false,false,false,false,false,false,false,false,false,false,false,false,false] rfl rfl (any_of HT_.out (by kernel_rfl)) (fun _ _ _ h => h) (Or.inl ⟨by rfl,?_⟩) ?_ ?_
  rotate_left
  ·
   exact vQ
  rotate_left
  ·
   exact vP
  refine take_ (i:=3) (N:=some 8) (v:=?_) (a':=?_) #[true,true,true,true,false,false,false,false,false,false,false,false,false,false,false,false] rfl rfl (take_ofW HT_.out HW_.out (by kernel_rfl)) (fun _ _ _ h => h) (Or.inl ⟨by rfl,?_⟩) hHeld ?_ ?_
  rotate_left
  ·
   rintro w' ⟨s0,s1,s2⟩
   go_simp
   with_reducible rfl
  rotate_left
  ·
   exact vP
  refine pure_ (i:=4) (N:=some 9) (v:=?_) (a':=?_) #[true,true,true,true,true,false,false,false,false,false,false,false,false,false,false,false] rfl rfl (any_of HT_.out (by kernel_rfl)) (fun _ _ _ h => h) (Or.inl ⟨by rfl,?_⟩) ?_ ?_
  rotate_left
  ·
   exact vQ
  rotate_left
  ·
   exact vP
  refine pure_ (i:=5) (N:=some 10) (v:=?_) (a':=?_) #[true,true,true,true,true,true,false,false,false,false,false,false,false,false,false,false] rfl rfl (any_of HT_.out (by kernel_rfl)) (fun _ _ _ h => h) (Or.inl ⟨by rfl,?_⟩) ?_ ?_
  rotate_left
  ·
   exact vQ
  rotate_left
  ·
   exact vP
  refine pure_ (i:=6) (N:=some 11) (v:=?_) (a':=?_) #[true,true,true,true,true,true,true,false,false,false,false,false,false,false,false,false] rfl rfl (any_of HT_.out (by kernel_rfl)) (fun _ _ _ h => h) (Or.inl ⟨by rfl,?_⟩) ?_ ?_
  rotate_left
  ·
   exact vQ
  rotate_left
  ·
   exact vP
  refine pure_ (i:=7) (N:=some 12) (v:=undef) (a':=?_) #[true,true,true,true,true,true,true,true,false,false,false,false,false,false,false,false] rfl rfl (any_of HT_.out (by kernel_rfl)) (fun _ _ _ h => h) (Or.inr ⟨by rfl,rfl⟩) ?_ ?_
  rotate_left
  ·
   exact vP
  refine pure_ (i:=8) (N:=some 13) (v:=undef) (a':=?_) #[true,true,true,true,true,true,true,true,true,false,false,false,false,false,false,false] rfl rfl (any_of HT_.out (by kernel_rfl)) (fun _ _ _ h => h) (Or.inr ⟨by rfl,rfl⟩) ?_ ?_
  rotate_left
  ·
   exact vP
  refine pure_ (i:=9) (N:=some 14) (v:=undef) (a':=?_) #[true,true,true,true,true,true,true,true,true,true,false,false,false,false,false,false] rfl rfl (any_of HT_.out (by kernel_rfl)) (fun _ _ _ h => h) (Or.inr ⟨by rfl,rfl⟩) ?_ ?_
  rotate_left
  ·
   exact vP
  refine pure_ (i:=10) (N:=some 15) (v:=undef) (a':=?_) #[true,true,true,true,true,true,true,true,true,true,true,false,false,false,false,false] rfl rfl (any_of HT_.out (by kernel_rfl)) (fun _ _ _ h => h) (Or.inr ⟨by rfl,rfl⟩) ?_ ?_
  rotate_left
  ·
   exact vP
  refine pure_ (i:=11) (N:=some 16) (v:=undef) (a':=?_) #[true,true,true,true,true,true,true,true,true,true,true,true,false,false,false,false] rfl rfl (any_of HT_.out (by kernel_rfl)) (fun _ _ _ h => h) (Or.inr ⟨by rfl,rfl⟩) ?_ ?_
  rotate_left
  ·
   exact vP
  refine pure_ (i:=12) (N:=some 17) (v:=undef) (a':=?_) #[true,true,true,true,true,true,true,true,true,true,true,true,true,false,false,false] rfl rfl (any_of HT_.out (by kernel_rfl)) (fun _ _ _ h => h) (Or.inr ⟨by rfl,rfl⟩) ?_ ?_
  rotate_left
  ·
   exact vP
  refine pure_ (i:=13) (N:=some 18) (v:=undef) (a':=?_) #[true,true,true,true,true,true,true,true,true,true,true,true,true,true,false,false] rfl rfl (any_of HT_.out (by kernel_rfl)) (fun _ _ _ h => h) (Or.inr ⟨by rfl,rfl⟩) ?_ ?_
  rotate_left
  ·
   exact vP
  refine pure_ (i:=14) (N:=some 19) (v:=?_) (a':=?_) #[true,true,true,true,true,true,true,true,true,true,true,true,true,true,true,false] rfl rfl (any_of HT_.out (by kernel_rfl)) (fun _ _ _ h => h) (Or.inl ⟨by rfl,?_⟩) ?_ ?_
  rotate_left
  ·
   exact vQ
  rotate_left
  ·
   exact vP
  refine pure_ (i:=15) (N:=some 4) (v:=?_) (a':=?_) #[true,true,true,true,true,true,true,true,true,true,true,true,true,true,true,true] rfl rfl (any_of HT_.out (by kernel_rfl)) (fun _ _ _ h => h) (Or.inl ⟨by rfl,?_⟩) ?_ ?_
  rotate_left
  ·
   exact vQ
  rotate_left
  ·
   exact vP
  refine done_ (done_of HT_.out (by kernel_rfl)) ?_
  try go_wp2
  go_ret
  exact ⟨by first | rfl | (simp [errW_none,errW_some] <;> rfl) | (simp [*,errW_none,errW_some] <;> rfl),by repeat (first | (with_reducible first | exact HB.out | apply below_alloc | apply pw_below_drewN | apply below_drew1 | refine below_set ?_ GE350.out) | exact HB.out)⟩
end Go.Proofs.Ytonpekldcnankaa.X
