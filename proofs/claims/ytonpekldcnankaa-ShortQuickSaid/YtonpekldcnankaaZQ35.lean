/- Texts of the walk and of the plain laws, laid together by a program: Sp5b, X36, X48, R8, X49, Sp6i. -/
import Derived.Test.YtonpekldcnankaaZQ16
import Derived.Test.YtonpekldcnankaaZQ31
set_option maxHeartbeats 8000000
set_option maxRecDepth 100000
section
namespace Go.Proofs.Ytonpekldcnankaa.X
open Go.RowKit Go.Proofs.YtonpekldcnankaaW.PrintWords Go.Proofs.YtonpekldcnankaaW.PrintLast Go.Proofs.YtonpekldcnankaaW.PrintMore Go.Proofs.Ytonpekldcnankaa.Ma
set_option linter.unusedVariables false
theorem Few5_loop (ls:List (List Int)) (hn:ls.length≤1000000000):∀ (d i:Nat),i + d = ls.length→Ev (fun k => sconcelaw05_Few.l0 k ls (ls.length:Int) (i:Int)) (fewB 40 (ls.drop i)):=by
  intro d
  induction d with
  | zero =>
    intro i hi
    refine Ev.step (fun k => by rw [sconcelaw05_Few.l0]) (ev_neg (by omega) (ev_const ?_))
    rw [List.drop_of_length_le (by omega)];rfl
  | succ d ih =>
    intro i hi
    refine Ev.step (fun k => by rw [sconcelaw05_Few.l0,w64_succ (by omega),rdLI]) ?_
    refine ev_pos (by omega) (ev_pos (by omega) (ev_pos (by omega) ?_))
    rw [few_step (show i < ls.length by omega)]
    by_cases h:((ls.getD i []).length:Int) > 40
    · refine ev_pos h (ev_const ?_)
      rw [show decide ((ls.getD i []).length≤40) = false from decide_eq_false (by omega)];rfl
    · refine ev_neg h ?_
      rw [show decide ((ls.getD i []).length≤40) = true from decide_eq_true (by omega),Bool.true_and]
      exact ih (i + 1) (by omega)
theorem sp_Few5 (ls:List (List Int)) (hn:ls.length≤1000000000):Ev (fun k => sconcelaw05_Few.f k ls) (fewB 40 ls):=by
  unfold sconcelaw05_Few.f
  exact Few5_loop ls hn ls.length 0 (by omega)
theorem blen_mul {x y m n:Nat} (hx:blen x≤m) (hy:blen y≤n):blen (x * y)≤m + n:=blen_le (by
  rw [Nat.pow_add]
  have h1:=Nat.lt_of_lt_of_le (blen_lt x) (Nat.pow_le_pow_right (show 0 < 4294967296 by decide) hx)
  have h2:=Nat.lt_of_lt_of_le (blen_lt y) (Nat.pow_le_pow_right (show 0 < 4294967296 by decide) hy)
  exact Nat.mul_lt_mul'' h1 h2)
theorem mx_max (a b:Int):mx a b = max a b:=by unfold mx;omega
theorem sp_Least {x:Nat} (hx:blen x≤1000000):Ev (fun k => sconceref03_Least.f k (big x)) (wds (max (wlen x) 1) x):=by
  unfold sconceref03_Least.f sconceref03_Words.f
  refine ev_bind0 rfl ?_
  have hw:wlen x = (blen x + 1) / 2:=by
    unfold wlen blen
    split <;> omega
  have e1:wrap64 (Int.tdiv (wrap64 (((big x).length:Int) + 1)) 2) = (((blen x + 1) / 2:Nat):Int):=by
    rw [big_length,w64 (n:=(blen x:Int) + 1) (by omega) (by omega),Int.tdiv_eq_ediv_of_nonneg (by omega),w64 (by omega) (by omega)]
    omega
  rw [e1,← hw,mx_max]
  refine ev_bind (sp_Nat (x:=x) (n:=max ((wlen x:Nat):Int) 1) (by omega)) (ev_const ?_)
  congr 2
  omega
end Go.Proofs.Ytonpekldcnankaa.X
end
section
namespace Go.Proofs.Ytonpekldcnankaa.X
open Go.RowKit Go.Proofs.YtonpekldcnankaaW.PrintWords Go.Proofs.YtonpekldcnankaaW.PrintLast Go.Proofs.YtonpekldcnankaaW.PrintMore
attribute [local go_sem] max2_int min2_int max_two min_two max_three min_three max_four min_four
set_option linter.unusedVariables false
set_option linter.unusedSimpArgs false
def sconceref03_MulMod.f (k:Nat) (l0:List Int) (l1:List Int) (l2:List Int):Option (List Int):=(sconceref03_Mul.f k l0 l1).bind fun t589 => ((sconceref03_Mod.f t589 l2).bind fun t592 => (some t592))
theorem sconceref03_MulMod.calls (k:Nat) (A0:Option Addr) (c0:Nat) (l0:List Int) (A1:Option Addr) (c1:Nat) (l1:List Int) (A2:Option Addr) (c2:Nat) (l2:List Int) (r:List Int) (w:World) (hr0:Kd.C (Kd.int .u32) w A0 l0.length l0) (hc0:l0.length≤c0) (hr1:Kd.C (Kd.int .u32) w A1 l1.length l1) (hc1:l1.length≤c1) (hr2:Kd.C (Kd.int .u32) w A2 l2.length l2) (hc2:l2.length≤c2) (h:sconceref03_MulMod.f k l0 l1 l2 = some r) :
  Calls Try.prog 61 #[.slice A0 l0.length c0,.slice A1 l1.length c1,.slice A2 l2.length c2] w fun e w' => ∃ v0_:Value,e = .returned (v0_)∧Kd.V (Kd.int .u32) 83 w' w.heap.size (fun k_ => (w.heap.size≤k_)) v0_ r∧Below w.heap.size w w':=by
 have HR0:=Aside0.mk hr0
 have HC0:=Aside0.mk hc0
 clear hr0 hc0
 have HR1:=Aside0.mk hr1
 have HC1:=Aside0.mk hc1
 clear hr1 hc1
 have HR2:=Aside0.mk hr2
 have HC2:=Aside0.mk hc2
 clear hr2 hc2
 have HB:=Aside0.mk (Below.refl w.heap.size w)
 have H:((sconceref03_Mul.f k l0 l1).bind fun t589 => ((sconceref03_Mod.f t589 l2).bind fun t592 => (some t592))) = some r:=h
 clear h
 replace H:=Option.bind_eq_some_iff.mp H
 obtain ⟨t589,A40,H⟩:=H
 replace H:((sconceref03_Mod.f t589 l2).bind fun t592 => (some t592)) = some r:=H
 have A4:=Aside0.mk A40
 clear A40
 replace H:=Option.bind_eq_some_iff.mp H
 obtain ⟨t592,A50,H⟩:=H
 replace H:(some t592) = some r:=H
 have A5:=Aside0.mk A50
 clear A50
 obtain rfl:=Option.some.inj H
 go_enter Try.func61,Try.ntmps61
 go_wp2_with (first | ((with_reducible refine gate_callee (f:=43) rfl ?_);refine goesL_ (some 9) rfl rfl Try.func43 (by kernel_rfl) rfl #[.slice A0 l0.length c0,.slice A1 l1.length c1] rfl vA ?_;(with_reducible refine (sconceref03_Mul.calls k _ _ l0 _ _ l1 t589 _ ?side1 ?side2 ?side3 ?side4 A4.out).mono ?_);(case side1 => repeat (first | exact HR0.out | (with_reducible refine Kd.C_alloc ?_ _) | (with_reducible refine Kd.C_drewN ?_ _) | (with_reducible refine Kd.C_drew ?_)));(case side2 => exact HC0.out);(case side3 => repeat (first | exact HR1.out | (with_reducible refine Kd.C_alloc ?_ _) | (with_reducible refine Kd.C_drewN ?_ _) | (with_reducible refine Kd.C_drew ?_)));(case side4 => exact HC1.out);rintro e w6 ⟨v590,rfl,ho0,hb⟩;refine ⟨_,rfl,?_⟩;have n0_:=Aside0.mk (Kd.V_lower (Kd.V_mono (ok':=fun k_ => (w.heap.size≤k_)) ho0 (fun k_ hk_ => (Nat.le_trans (below_size (vB HB.out)) hk_))) (below_size (vB HB.out)));have n1_:=Aside0.mk (below_step (vB HB.out) hb);clear HB;have HO591:=n0_;have HB:=n1_;clear n0_ n1_;(try clear hb);(try clear hb2);(try clear hk);(try clear hi);(try clear ho0);obtain ⟨Ao7,co7,eo7⟩:=Kd.V_slice HO591.out;subst eo7) | ((with_reducible refine gate_callee (f:=59) rfl ?_);refine goesL_ (some 11) rfl rfl Try.func59 (by kernel_rfl) rfl #[.slice Ao7 t589.length co7,.slice A2 l2.length c2] rfl vA ?_;(with_reducible refine (sconceref03_Mod.calls (fun k_ => (w.heap.size≤k_)) _ _ t589 _ _ l2 t592 _ ?side1 ?side2 ?side3 A5.out).mono ?_);(case side1 => exact HO591.out);(case side2 => repeat (first | exact (Kd.C_below HR2.out HB.out) | (with_reducible refine Kd.C_alloc ?_ _) | (with_reducible refine Kd.C_drewN ?_ _) | (with_reducible refine Kd.C_drew ?_)));(case side3 => exact HC2.out);rintro e w8 ⟨v593,rfl,ho0,hb⟩;refine ⟨_,rfl,?_⟩;have n0_:=Aside0.mk (Kd.V_below (vV HO591.out) hb);have n1_:=Aside0.mk (Kd.V_lower (Kd.V_mono (ok':=fun k_ => (w.heap.size≤k_)) ho0 (fun k_ hk_ => Or.elim hk_ (fun hs_ => hs_) (fun hn_ => (Nat.le_trans (below_size (vB HB.out)) hn_)))) (below_size (vB HB.out)));have n2_:=Aside0.mk (below_step (vB HB.out) hb);clear HO591;clear HB;have HO591:=n0_;have HO594:=n1_;have HB:=n2_;clear n0_ n1_ n2_;(try clear hb);(try clear hb2);(try clear hk);(try clear hi);(try clear ho0)))
 go_ret
 exact ⟨_,by first | rfl | (simp [errW_none,errW_some] <;> rfl) | (simp [*,errW_none,errW_some] <;> rfl),by (with_reducible repeat (first | apply Kd.V_alloc | apply Kd.V_drewN | apply Kd.V_drew));exact HO594.out,by repeat (first | (with_reducible first | exact HB.out | apply below_alloc | apply pw_below_drewN | apply below_drew1) | exact HB.out)⟩
end Go.Proofs.Ytonpekldcnankaa.X
end
section
namespace Go.Proofs.Ytonpekldcnankaa.X
open Go.RowKit Go.Proofs.YtonpekldcnankaaW.PrintWords Go.Proofs.YtonpekldcnankaaW.PrintLast Go.Proofs.YtonpekldcnankaaW.PrintMore
attribute [local go_sem] max2_int min2_int max_two min_two max_three min_three max_four min_four
set_option linter.unusedVariables false
set_option linter.unusedSimpArgs false
def sconceref03_BitLen.l0:Nat→List Int→Int→Option (Int)
 | 0,_,_ => none
 | k + 1,x0,x3 => if x3 > 0 then ((sconceref03_Bit.f x0 (wrap64 (x3 - 1))).bind fun t699 => (if t699 = 0 then (sconceref03_BitLen.l0 k x0 (wrap64 (x3 - 1))) else (some x3))) else (some x3)
def sconceref03_BitLen.f (k:Nat) (l0:List Int):Option (Int):=sconceref03_BitLen.l0 k l0 (wrap64 (32 * (l0.length:Int)))
theorem sconceref03_BitLen.calls (k:Nat) (A0:Option Addr) (c0:Nat) (l0:List Int) (r:Int) (w:World) (hr0:Kd.C (Kd.int .u32) w A0 l0.length l0) (hc0:l0.length≤c0) (h:sconceref03_BitLen.f k l0 = some r) :
  Calls Try.prog 95 #[.slice A0 l0.length c0] w fun e w' => e = .returned (.int .i64 r)∧Drawn0 w w':=by
 have HR0:=Aside0.mk hr0
 have HC0:=Aside0.mk hc0
 clear hr0 hc0
 have H:(sconceref03_BitLen.l0 k l0 (wrap64 (32 * (l0.length:Int)))) = some r:=h
 clear h
 have H':=Aside0.mk H
 clear H
 go_enter Try.func95,Try.ntmps95
 go_wp2
 go_loopg [3] k (fun kq v3 w' => ∃ (x3_1:Int),v3 = .int .i64 x3_1∧Aside0 (sconceref03_BitLen.l0 kq l0 x3_1 = some r)∧Aside0 (kq≤k)∧Drawn0 w w')
 case atStart => exact ⟨(wrap64 (32 * (l0.length:Int))),(by first | rfl | (simp;done) | (simp [*];done)),H',⟨Nat.le_refl _⟩,by repeat (first | exact Drawn0.refl _ | apply Drawn0.step)⟩
 case round =>
  clear H'
  obtain ⟨x3_1,rfl,HA,HK1,⟨m1,rfl⟩⟩:=hrel
  cases gk with
  | zero => exact absurd HA.out (by simp [sconceref03_BitLen.l0])
  | succ k1 =>
   have H:=HA.out
   clear HA
   simp only [sconceref03_BitLen.l0] at H
   by_cases c2:x3_1 > 0
   ·
    rw [if_pos c2] at H
    have c2b0:decide (0 < x3_1) = true:=decide_eq_true c2
    clear c2
    replace H:=Option.bind_eq_some_iff.mp H
    obtain ⟨t699,A30,H⟩:=H
    replace H:(if t699 = 0 then (sconceref03_BitLen.l0 k1 l0 (wrap64 (x3_1 - 1))) else (some x3_1)) = some r:=H
    have A3:=Aside0.mk A30
    clear A30
    by_cases c4:t699 = 0
    ·
     rw [if_pos c4] at H
     have c4b0:(t699 == 0) = true:=beq_iff_eq.mpr c4
     have c4b1:(t699 != 0) = false:=bne_eq_false_iff_eq.mpr c4
     clear c4
     have H':=Aside0.mk H
     clear H
     go_wp2_with (first | (go_at_call 66;(with_reducible refine (sconceref03_Bit.calls _ _ l0 (wrap64 (x3_1 - 1)) t699 _ ?side1 ?side2 A3.out).mono ?_);(case side1 => repeat (first | exact HR0.out | (with_reducible refine Kd.C_alloc ?_ _) | (with_reducible refine Kd.C_drewN ?_ _) | (with_reducible refine Kd.C_drew ?_)));(case side2 => exact HC0.out);rintro e w' ⟨rfl,⟨nd,rfl⟩⟩))
     go_roundg k1
     case measure => have:=HK1.out;omega
     case rel => exact ⟨(wrap64 (x3_1 - 1)),(by first | rfl | (simp;done) | (simp [*];done)),H',⟨by have:=HK1.out;omega⟩,by repeat (first | exact Drawn0.refl _ | apply Drawn0.step)⟩
    ·
     rw [if_neg c4] at H
     have c4b0:(t699 == 0) = false:=beq_eq_false_iff_ne.mpr c4
     have c4b1:(t699 != 0) = true:=bne_iff_ne.mpr c4
     obtain rfl:=Option.some.inj H
     go_wp2_with (first | (go_at_call 66;(with_reducible refine (sconceref03_Bit.calls _ _ l0 (wrap64 (x3_1 - 1)) t699 _ ?side1 ?side2 A3.out).mono ?_);(case side1 => repeat (first | exact HR0.out | (with_reducible refine Kd.C_alloc ?_ _) | (with_reducible refine Kd.C_drewN ?_ _) | (with_reducible refine Kd.C_drew ?_)));(case side2 => exact HC0.out);rintro e w' ⟨rfl,⟨nd,rfl⟩⟩))
     go_ret
     exact ⟨by first | rfl | (simp;done) | (simp [*];done),by repeat (first | exact Drawn0.refl _ | apply Drawn0.step)⟩
   ·
    rw [if_neg c2] at H
    have c2b0:decide (0 < x3_1) = false:=decide_eq_false c2
    clear c2
    obtain rfl:=Option.some.inj H
    go_wp2
    go_ret
    exact ⟨by first | rfl | (simp;done) | (simp [*];done),by repeat (first | exact Drawn0.refl _ | apply Drawn0.step)⟩
def sconceref03_ExpMod.l0:Nat→List Int→List Int→List Int→List Int→Int→Option (List Int)
 | 0,_,_,_,_,_ => none
 | k + 1,x0,x1,x2,x7,x8 => if x8 ≥ 0 then ((sconceref03_MulMod.f k x7 x7 x2).bind fun t710 => ((sconceref03_Bit.f x1 x8).bind fun t713 => (if t713 = 1 then ((sconceref03_MulMod.f k t710 x0 x2).bind fun t714 => (sconceref03_ExpMod.l0 k x0 x1 x2 t714 (wrap64 (x8 - 1)))) else (sconceref03_ExpMod.l0 k x0 x1 x2 t710 (wrap64 (x8 - 1)))))) else (some x7)
def sconceref03_ExpMod.f (k:Nat) (l0:List Int) (l1:List Int) (l2:List Int):Option (List Int):=(sconceref03_Small.f k 1).bind fun t700 => ((sconceref03_Mod.f t700 l2).bind fun t703 => ((sconceref03_Mod.f l0 l2).bind fun t706 => ((sconceref03_BitLen.f k l1).bind fun t709 => (sconceref03_ExpMod.l0 k t706 l1 l2 t703 (wrap64 (t709 - 1))))))
theorem sconceref03_ExpMod.calls (k:Nat) (P0_:Nat→Prop) (A0:Option Addr) (c0:Nat) (l0:List Int) (A1:Option Addr) (c1:Nat) (l1:List Int) (A2:Option Addr) (c2:Nat) (l2:List Int) (r:List Int) (w:World) (hs0:Kd.V (Kd.int .u32) 83 w w.heap.size (fun k_ => P0_ k_) (.slice A0 l0.length c0) l0) (hr1:Kd.C (Kd.int .u32) w A1 l1.length l1) (hc1:l1.length≤c1) (hr2:Kd.C (Kd.int .u32) w A2 l2.length l2) (hc2:l2.length≤c2) (h:sconceref03_ExpMod.f k l0 l1 l2 = some r) :
  Calls Try.prog 82 #[.slice A0 l0.length c0,.slice A1 l1.length c1,.slice A2 l2.length c2] w fun e w' => ∃ v0_:Value,e = .returned (v0_)∧Kd.V (Kd.int .u32) 83 w' w.heap.size (fun k_ => (P0_ k_∨w.heap.size≤k_)) v0_ r∧Below w.heap.size w w':=by
 have HO0:=Aside0.mk (show Kd.V (Kd.int .u32) 83 w w.heap.size (fun k_ => (P0_ k_∨w.heap.size≤k_)) (.slice A0 l0.length c0) l0 from Kd.V_mono hs0 (fun k_ hk => .inl hk))
 have HR1:=Aside0.mk hr1
 have HC1:=Aside0.mk hc1
 clear hr1 hc1
 have HR2:=Aside0.mk hr2
 have HC2:=Aside0.mk hc2
 clear hr2 hc2
 have HB:=Aside0.mk (Below.refl w.heap.size w)
 have H:((sconceref03_Small.f k 1).bind fun t700 => ((sconceref03_Mod.f t700 l2).bind fun t703 => ((sconceref03_Mod.f l0 l2).bind fun t706 => ((sconceref03_BitLen.f k l1).bind fun t709 => (sconceref03_ExpMod.l0 k t706 l1 l2 t703 (wrap64 (t709 - 1))))))) = some r:=h
 clear h
 replace H:=Option.bind_eq_some_iff.mp H
 obtain ⟨t700,A40,H⟩:=H
 replace H:((sconceref03_Mod.f t700 l2).bind fun t703 => ((sconceref03_Mod.f l0 l2).bind fun t706 => ((sconceref03_BitLen.f k l1).bind fun t709 => (sconceref03_ExpMod.l0 k t706 l1 l2 t703 (wrap64 (t709 - 1)))))) = some r:=H
 have A4:=Aside0.mk A40
 clear A40
 replace H:=Option.bind_eq_some_iff.mp H
 obtain ⟨t703,A50,H⟩:=H
 replace H:((sconceref03_Mod.f l0 l2).bind fun t706 => ((sconceref03_BitLen.f k l1).bind fun t709 => (sconceref03_ExpMod.l0 k t706 l1 l2 t703 (wrap64 (t709 - 1))))) = some r:=H
 have A5:=Aside0.mk A50
 clear A50
 replace H:=Option.bind_eq_some_iff.mp H
 obtain ⟨t706,A60,H⟩:=H
 replace H:((sconceref03_BitLen.f k l1).bind fun t709 => (sconceref03_ExpMod.l0 k t706 l1 l2 t703 (wrap64 (t709 - 1)))) = some r:=H
 have A6:=Aside0.mk A60
 clear A60
 replace H:=Option.bind_eq_some_iff.mp H
 obtain ⟨t709,A70,H⟩:=H
 replace H:(sconceref03_ExpMod.l0 k t706 l1 l2 t703 (wrap64 (t709 - 1))) = some r:=H
 have A7:=Aside0.mk A70
 clear A70
 have H':=Aside0.mk H
 clear H
 go_enter Try.func82,Try.ntmps82
 go_wp2_with (first | ((with_reducible refine gate_callee (f:=44) rfl ?_);refine goesL_ (some 9) rfl rfl Try.func44 (by kernel_rfl) rfl #[.int .u64 1] rfl vA ?_;(with_reducible refine (sconceref03_Small.calls k 1 t700 _ A4.out).mono ?_);rintro e w8 ⟨v701,rfl,ho0,hb⟩;refine ⟨_,rfl,?_⟩;have n0_:=Aside0.mk (Kd.V_below (vV HO0.out) hb);have n1_:=Aside0.mk (Kd.V_lower (Kd.V_mono (ok':=fun k_ => (P0_ k_∨w.heap.size≤k_)) ho0 (fun k_ hk_ => (.inr (Nat.le_trans (below_size (vB HB.out)) hk_)))) (below_size (vB HB.out)));have n2_:=Aside0.mk (below_step (vB HB.out) hb);clear HO0;clear HB;have HO0:=n0_;have HO702:=n1_;have HB:=n2_;clear n0_ n1_ n2_;(try clear hb);(try clear hb2);(try clear hk);(try clear hi);(try clear ho0);obtain ⟨Ao9,co9,eo9⟩:=Kd.V_slice HO702.out;subst eo9) | ((with_reducible refine gate_callee (f:=59) rfl ?_);refine goesL_ (some 11) rfl rfl Try.func59 (by kernel_rfl) rfl #[.slice Ao9 t700.length co9,.slice A2 l2.length c2] rfl vA ?_;(with_reducible refine (sconceref03_Mod.calls (fun k_ => (P0_ k_∨w.heap.size≤k_)) _ _ t700 _ _ l2 t703 _ ?side1 ?side2 ?side3 A5.out).mono ?_);(case side1 => exact HO702.out);(case side2 => repeat (first | exact (Kd.C_below HR2.out HB.out) | (with_reducible refine Kd.C_alloc ?_ _) | (with_reducible refine Kd.C_drewN ?_ _) | (with_reducible refine Kd.C_drew ?_)));(case side3 => exact HC2.out);rintro e w10 ⟨v704,rfl,ho0,hb⟩;refine ⟨_,rfl,?_⟩;have n0_:=Aside0.mk (Kd.V_below (vV HO0.out) hb);have n1_:=Aside0.mk (Kd.V_below (vV HO702.out) hb);have n2_:=Aside0.mk (Kd.V_lower (Kd.V_mono (ok':=fun k_ => (P0_ k_∨w.heap.size≤k_)) ho0 (fun k_ hk_ => Or.elim hk_ (fun hs_ => hs_) (fun hn_ => (.inr (Nat.le_trans (below_size (vB HB.out)) hn_))))) (below_size (vB HB.out)));have n3_:=Aside0.mk (below_step (vB HB.out) hb);clear HO0;clear HO702;clear HB;have HO0:=n0_;have HO702:=n1_;have HO705:=n2_;have HB:=n3_;clear n0_ n1_ n2_ n3_;(try clear hb);(try clear hb2);(try clear hk);(try clear hi);(try clear ho0)) | ((with_reducible refine gate_callee (f:=59) rfl ?_);refine goesL_ (some 14) rfl rfl Try.func59 (by kernel_rfl) rfl #[.slice A0 l0.length c0,.slice A2 l2.length c2] rfl vA ?_;(with_reducible refine (sconceref03_Mod.calls (fun k_ => (P0_ k_∨w.heap.size≤k_)) _ _ l0 _ _ l2 t706 _ ?side1 ?side2 ?side3 A6.out).mono ?_);(case side1 => exact HO0.out);(case side2 => repeat (first | exact (Kd.C_below HR2.out HB.out) | (with_reducible refine Kd.C_alloc ?_ _) | (with_reducible refine Kd.C_drewN ?_ _) | (with_reducible refine Kd.C_drew ?_)));(case side3 => exact HC2.out);rintro e w11 ⟨v707,rfl,ho0,hb⟩;refine ⟨_,rfl,?_⟩;have n0_:=Aside0.mk (Kd.V_below (vV HO0.out) hb);have n1_:=Aside0.mk (Kd.V_below (vV HO702.out) hb);have n2_:=Aside0.mk (Kd.V_below (vV HO705.out) hb);have n3_:=Aside0.mk (Kd.V_lower (Kd.V_mono (ok':=fun k_ => (P0_ k_∨w.heap.size≤k_)) ho0 (fun k_ hk_ => Or.elim hk_ (fun hs_ => hs_) (fun hn_ => (.inr (Nat.le_trans (below_size (vB HB.out)) hn_))))) (below_size (vB HB.out)));have n4_:=Aside0.mk (below_step (vB HB.out) hb);clear HO0;clear HO702;clear HO705;clear HB;have HO0:=n0_;have HO702:=n1_;have HO705:=n2_;have HO708:=n3_;have HB:=n4_;clear n0_ n1_ n2_ n3_ n4_;(try clear hb);(try clear hb2);(try clear hk);(try clear hi);(try clear ho0)) | ((with_reducible refine gate_callee (f:=95) rfl ?_);refine goesL_ (some 16) rfl rfl Try.func95 (by kernel_rfl) rfl #[.slice A1 l1.length c1] rfl vA ?_;(with_reducible refine (sconceref03_BitLen.calls k _ _ l1 t709 _ ?side1 ?side2 A7.out).mono ?_);(case side1 => repeat (first | exact (Kd.C_below HR1.out HB.out) | (with_reducible refine Kd.C_alloc ?_ _) | (with_reducible refine Kd.C_drewN ?_ _) | (with_reducible refine Kd.C_drew ?_)));(case side2 => exact HC1.out);rintro e w' ⟨rfl,⟨nd,rfl⟩⟩;refine ⟨_,rfl,?_⟩))
 go_loopg [7,8] k (fun kq v7 v8 w' => ∃ (x7_1:List Int) (x8_1:Int),v8 = .int .i64 x8_1∧Aside0 (sconceref03_ExpMod.l0 kq t706 l1 l2 x7_1 x8_1 = some r)∧Aside0 (kq≤k)∧Aside0 (Kd.V (Kd.int .u32) 83 w' w.heap.size (fun k_ => (P0_ k_∨w.heap.size≤k_)) v707 t706)∧Aside0 (Kd.V (Kd.int .u32) 83 w' w.heap.size (fun k_ => (P0_ k_∨w.heap.size≤k_)) v7 x7_1)∧Aside0 (Below w.heap.size w w'))
 case atStart => exact ⟨(t703),(wrap64 (t709 - 1)),(by first | rfl | (simp;done) | (simp [*];done)),H',⟨Nat.le_refl _⟩,⟨by (with_reducible repeat (first | apply Kd.V_alloc | apply Kd.V_drewN | apply Kd.V_drew));exact HO708.out⟩,⟨by (with_reducible repeat (first | apply Kd.V_alloc | apply Kd.V_drewN | apply Kd.V_drew));exact HO705.out⟩,⟨by repeat (first | (with_reducible first | exact HB.out | apply below_alloc | apply pw_below_drewN | apply below_drew1) | exact HB.out)⟩⟩
 case round =>
  clear H'
  try clear c1
  try clear c2
  try clear p2
  try clear c4
  try clear c5
  try clear p6
  try clear c8
  try clear c9
  obtain ⟨x7_1,x8_1,rfl,HA,HK1,HO_0,HO_7,HB⟩:=hrel
  cases gk with
  | zero => exact absurd HA.out (by simp [sconceref03_ExpMod.l0])
  | succ k1 =>
   have H:=HA.out
   clear HA
   simp only [sconceref03_ExpMod.l0] at H
   by_cases c12:x8_1 ≥ 0
   ·
    rw [if_pos c12] at H
    have c12b0:decide (0≤x8_1) = true:=decide_eq_true c12
    clear c12
    replace H:=Option.bind_eq_some_iff.mp H
    obtain ⟨t710,A130,H⟩:=H
    replace H:((sconceref03_Bit.f l1 x8_1).bind fun t713 => (if t713 = 1 then ((sconceref03_MulMod.f k1 t710 t706 l2).bind fun t714 => (sconceref03_ExpMod.l0 k1 t706 l1 l2 t714 (wrap64 (x8_1 - 1)))) else (sconceref03_ExpMod.l0 k1 t706 l1 l2 t710 (wrap64 (x8_1 - 1))))) = some r:=H
    have A13:=Aside0.mk A130
    clear A130
    replace H:=Option.bind_eq_some_iff.mp H
    obtain ⟨t713,A140,H⟩:=H
    replace H:(if t713 = 1 then ((sconceref03_MulMod.f k1 t710 t706 l2).bind fun t714 => (sconceref03_ExpMod.l0 k1 t706 l1 l2 t714 (wrap64 (x8_1 - 1)))) else (sconceref03_ExpMod.l0 k1 t706 l1 l2 t710 (wrap64 (x8_1 - 1)))) = some r:=H
    have A14:=Aside0.mk A140
    clear A140
    by_cases c15:t713 = 1
    ·
     rw [if_pos c15] at H
     have c15b0:(t713 == 1) = true:=beq_iff_eq.mpr c15
     have c15b1:(t713 != 1) = false:=bne_eq_false_iff_eq.mpr c15
     clear c15
     replace H:=Option.bind_eq_some_iff.mp H
     obtain ⟨t714,A160,H⟩:=H
     replace H:(sconceref03_ExpMod.l0 k1 t706 l1 l2 t714 (wrap64 (x8_1 - 1))) = some r:=H
     have A16:=Aside0.mk A160
     clear A160
     have H':=Aside0.mk H
     clear H
     obtain ⟨Ao17,co17,eo17⟩:=Kd.V_slice HO_7.out
     subst eo17
     go_wp2_with (first | ((with_reducible refine gate_callee (f:=61) rfl ?_);refine goesL_ (some 25) rfl rfl Try.func61 (by kernel_rfl) rfl #[.slice Ao17 x7_1.length co17,.slice Ao17 x7_1.length co17,.slice A2 l2.length c2] rfl vA ?_;(with_reducible refine (sconceref03_MulMod.calls k1 _ _ x7_1 _ _ x7_1 _ _ l2 t710 _ ?side1 ?side2 ?side3 ?side4 ?side5 ?side6 A13.out).mono ?_);(case side1 => repeat (first | exact (Kd.V_reads' HO_7.out).2.2 | (with_reducible refine Kd.C_alloc ?_ _) | (with_reducible refine Kd.C_drewN ?_ _) | (with_reducible refine Kd.C_drew ?_)));(case side2 => exact (Kd.V_reads' HO_7.out).2.1);(case side3 => repeat (first | exact (Kd.V_reads' HO_7.out).2.2 | (with_reducible refine Kd.C_alloc ?_ _) | (with_reducible refine Kd.C_drewN ?_ _) | (with_reducible refine Kd.C_drew ?_)));(case side4 => exact (Kd.V_reads' HO_7.out).2.1);(case side5 => repeat (first | exact (Kd.C_below HR2.out HB.out) | (with_reducible refine Kd.C_alloc ?_ _) | (with_reducible refine Kd.C_drewN ?_ _) | (with_reducible refine Kd.C_drew ?_)));(case side6 => exact HC2.out);rintro e w18 ⟨v711,rfl,ho0,hb⟩;refine ⟨_,rfl,?_⟩;have n0_:=Aside0.mk (Kd.V_below (vV HO_0.out) hb);have n1_:=Aside0.mk (Kd.V_below (vV HO_7.out) hb);have n2_:=Aside0.mk (Kd.V_lower (Kd.V_mono (ok':=fun k_ => (P0_ k_∨w.heap.size≤k_)) ho0 (fun k_ hk_ => (.inr (Nat.le_trans (below_size (vB HB.out)) hk_)))) (below_size (vB HB.out)));have n3_:=Aside0.mk (below_step (vB HB.out) hb);clear HO_0;clear HO_7;clear HB;have HO_0:=n0_;have HO_7:=n1_;have HO712:=n2_;have HB:=n3_;clear n0_ n1_ n2_ n3_;(try clear hb);(try clear hb2);(try clear hk);(try clear hi);(try clear ho0)) | ((with_reducible refine gate_callee (f:=66) rfl ?_);refine goesL_ (some 28) rfl rfl Try.func66 (by kernel_rfl) rfl #[.slice A1 l1.length c1,.int .i64 x8_1] rfl vA ?_;(with_reducible refine (sconceref03_Bit.calls _ _ l1 x8_1 t713 _ ?side1 ?side2 A14.out).mono ?_);(case side1 => repeat (first | exact (Kd.C_below HR1.out HB.out) | (with_reducible refine Kd.C_alloc ?_ _) | (with_reducible refine Kd.C_drewN ?_ _) | (with_reducible refine Kd.C_drew ?_)));(case side2 => exact HC1.out);rintro e w' ⟨rfl,⟨nd,rfl⟩⟩;refine ⟨_,rfl,?_⟩;obtain ⟨Ao19,co19,eo19⟩:=Kd.V_slice HO712.out;subst eo19;obtain ⟨Ao20,co20,eo20⟩:=Kd.V_slice HO_0.out;subst eo20) | ((with_reducible refine gate_callee (f:=61) rfl ?_);refine goesL_ (some 33) rfl rfl Try.func61 (by kernel_rfl) rfl #[.slice Ao19 t710.length co19,.slice Ao20 t706.length co20,.slice A2 l2.length c2] rfl vA ?_;(with_reducible refine (sconceref03_MulMod.calls k1 _ _ t710 _ _ t706 _ _ l2 t714 _ ?side1 ?side2 ?side3 ?side4 ?side5 ?side6 A16.out).mono ?_);(case side1 => repeat (first | exact (Kd.V_reads' HO712.out).2.2 | (with_reducible refine Kd.C_alloc ?_ _) | (with_reducible refine Kd.C_drewN ?_ _) | (with_reducible refine Kd.C_drew ?_)));(case side2 => exact (Kd.V_reads' HO712.out).2.1);(case side3 => repeat (first | exact (Kd.V_reads' HO_0.out).2.2 | (with_reducible refine Kd.C_alloc ?_ _) | (with_reducible refine Kd.C_drewN ?_ _) | (with_reducible refine Kd.C_drew ?_)));(case side4 => exact (Kd.V_reads' HO_0.out).2.1);(case side5 => repeat (first | exact (Kd.C_below HR2.out (vB HB.out)) | (with_reducible refine Kd.C_alloc ?_ _) | (with_reducible refine Kd.C_drewN ?_ _) | (with_reducible refine Kd.C_drew ?_)));(case side6 => exact HC2.out);rintro e w21 ⟨v715,rfl,ho0,hb⟩;refine ⟨_,rfl,?_⟩;have n0_:=Aside0.mk (Kd.V_below (vV HO_0.out) hb);have n1_:=Aside0.mk (Kd.V_below (vV HO_7.out) hb);have n2_:=Aside0.mk (Kd.V_below (vV HO712.out) hb);have n3_:=Aside0.mk (Kd.V_lower (Kd.V_mono (ok':=fun k_ => (P0_ k_∨w.heap.size≤k_)) ho0 (fun k_ hk_ => (.inr (Nat.le_trans (below_size (vB HB.out)) hk_)))) (below_size (vB HB.out)));have n4_:=Aside0.mk (below_step (vB HB.out) hb);clear HO_0;clear HO_7;clear HO712;clear HB;have HO_0:=n0_;have HO_7:=n1_;have HO712:=n2_;have HO716:=n3_;have HB:=n4_;clear n0_ n1_ n2_ n3_ n4_;(try clear hb);(try clear hb2);(try clear hk);(try clear hi);(try clear ho0)))
     go_roundg k1
     case measure => have:=HK1.out;omega
     case rel => exact ⟨(t714),(wrap64 (x8_1 - 1)),(by first | rfl | (simp;done) | (simp [*];done)),H',⟨by have:=HK1.out;omega⟩,⟨by (with_reducible repeat (first | apply Kd.V_alloc | apply Kd.V_drewN | apply Kd.V_drew));exact HO_0.out⟩,⟨by (with_reducible repeat (first | apply Kd.V_alloc | apply Kd.V_drewN | apply Kd.V_drew));exact HO716.out⟩,⟨by repeat (first | (with_reducible first | exact HB.out | apply below_alloc | apply pw_below_drewN | apply below_drew1) | exact HB.out)⟩⟩
    ·
     rw [if_neg c15] at H
     have c15b0:(t713 == 1) = false:=beq_eq_false_iff_ne.mpr c15
     have c15b1:(t713 != 1) = true:=bne_iff_ne.mpr c15
     have H':=Aside0.mk H
     clear H
     obtain ⟨Ao22,co22,eo22⟩:=Kd.V_slice HO_7.out
     subst eo22
     go_wp2_with (first | ((with_reducible refine gate_callee (f:=61) rfl ?_);refine goesL_ (some 25) rfl rfl Try.func61 (by kernel_rfl) rfl #[.slice Ao22 x7_1.length co22,.slice Ao22 x7_1.length co22,.slice A2 l2.length c2] rfl vA ?_;(with_reducible refine (sconceref03_MulMod.calls k1 _ _ x7_1 _ _ x7_1 _ _ l2 t710 _ ?side1 ?side2 ?side3 ?side4 ?side5 ?side6 A13.out).mono ?_);(case side1 => repeat (first | exact (Kd.V_reads' HO_7.out).2.2 | (with_reducible refine Kd.C_alloc ?_ _) | (with_reducible refine Kd.C_drewN ?_ _) | (with_reducible refine Kd.C_drew ?_)));(case side2 => exact (Kd.V_reads' HO_7.out).2.1);(case side3 => repeat (first | exact (Kd.V_reads' HO_7.out).2.2 | (with_reducible refine Kd.C_alloc ?_ _) | (with_reducible refine Kd.C_drewN ?_ _) | (with_reducible refine Kd.C_drew ?_)));(case side4 => exact (Kd.V_reads' HO_7.out).2.1);(case side5 => repeat (first | exact (Kd.C_below HR2.out HB.out) | (with_reducible refine Kd.C_alloc ?_ _) | (with_reducible refine Kd.C_drewN ?_ _) | (with_reducible refine Kd.C_drew ?_)));(case side6 => exact HC2.out);rintro e w23 ⟨v711,rfl,ho0,hb⟩;refine ⟨_,rfl,?_⟩;have n0_:=Aside0.mk (Kd.V_below (vV HO_0.out) hb);have n1_:=Aside0.mk (Kd.V_below (vV HO_7.out) hb);have n2_:=Aside0.mk (Kd.V_lower (Kd.V_mono (ok':=fun k_ => (P0_ k_∨w.heap.size≤k_)) ho0 (fun k_ hk_ => (.inr (Nat.le_trans (below_size (vB HB.out)) hk_)))) (below_size (vB HB.out)));have n3_:=Aside0.mk (below_step (vB HB.out) hb);clear HO_0;clear HO_7;clear HB;have HO_0:=n0_;have HO_7:=n1_;have HO712:=n2_;have HB:=n3_;clear n0_ n1_ n2_ n3_;(try clear hb);(try clear hb2);(try clear hk);(try clear hi);(try clear ho0)) | ((with_reducible refine gate_callee (f:=66) rfl ?_);refine goesL_ (some 28) rfl rfl Try.func66 (by kernel_rfl) rfl #[.slice A1 l1.length c1,.int .i64 x8_1] rfl vA ?_;(with_reducible refine (sconceref03_Bit.calls _ _ l1 x8_1 t713 _ ?side1 ?side2 A14.out).mono ?_);(case side1 => repeat (first | exact (Kd.C_below HR1.out HB.out) | (with_reducible refine Kd.C_alloc ?_ _) | (with_reducible refine Kd.C_drewN ?_ _) | (with_reducible refine Kd.C_drew ?_)));(case side2 => exact HC1.out);rintro e w' ⟨rfl,⟨nd,rfl⟩⟩;refine ⟨_,rfl,?_⟩))
     go_roundg k1
     case measure => have:=HK1.out;omega
     case rel => exact ⟨(t710),(wrap64 (x8_1 - 1)),(by first | rfl | (simp;done) | (simp [*];done)),H',⟨by have:=HK1.out;omega⟩,⟨by (with_reducible repeat (first | apply Kd.V_alloc | apply Kd.V_drewN | apply Kd.V_drew));exact HO_0.out⟩,⟨by (with_reducible repeat (first | apply Kd.V_alloc | apply Kd.V_drewN | apply Kd.V_drew));exact HO712.out⟩,⟨by repeat (first | (with_reducible first | exact HB.out | apply below_alloc | apply pw_below_drewN | apply below_drew1) | exact HB.out)⟩⟩
   ·
    rw [if_neg c12] at H
    have c12b0:decide (0≤x8_1) = false:=decide_eq_false c12
    clear c12
    obtain rfl:=Option.some.inj H
    go_wp2
    go_ret
    exact ⟨_,by first | rfl | (simp [errW_none,errW_some] <;> rfl) | (simp [*,errW_none,errW_some] <;> rfl),by (with_reducible repeat (first | apply Kd.V_alloc | apply Kd.V_drewN | apply Kd.V_drew));exact HO_7.out,by repeat (first | (with_reducible first | exact HB.out | apply below_alloc | apply pw_below_drewN | apply below_drew1) | exact HB.out)⟩
end Go.Proofs.Ytonpekldcnankaa.X
end
section
namespace Go.Proofs.Ytonpekldcnankaa.X
open Go.RowKit Go.Proofs.YtonpekldcnankaaW.PrintWords Go.Proofs.YtonpekldcnankaaW.PrintLast Go.Proofs.YtonpekldcnankaaW.PrintMore
set_option linter.unusedVariables false
set_option linter.unusedSimpArgs false
def Bw (W:World) (A:Option Addr) (c:Nat) (l:List Int):Prop:=Kd.C (Kd.int .u32) W A l.length l∧l.length≤c
theorem Bw.below {W W':World} {A:Option Addr} {c:Nat} {l:List Int} (h:Bw W A c l) (hb:Below W.heap.size W W'):Bw W' A c l:=⟨Kd.C_below h.1 hb,h.2⟩
theorem Bw.of_V {W:World} {base:Nat} {ok:Nat→Prop} {v:Value} {l:List Int} (h:Kd.V (Kd.int .u32) 83 W base ok v l):∃ A c,v = .slice A l.length c∧Bw W A c l:=by
  obtain ⟨A,c,e⟩:=Kd.V_slice h
  subst e
  exact ⟨A,c,rfl,(Kd.V_reads' h).2.2,(Kd.V_reads' h).2.1⟩
theorem Bw.v {W:World} {A:Option Addr} {c:Nat} {l:List Int} (h:Bw W A c l):Kd.V (Kd.int .u32) 83 W W.heap.size (fun k_ => k_ < W.heap.size) (.slice A l.length c) l:=Kd.V_mk h.2 (Kd.C_F (Kd.heap_int .u32) h.1)
theorem ref8_Exp_calls (k:Nat) (A0:Option Addr) (c0:Nat) (m0:List Int) (m1:Int) (A2:Option Addr) (c2:Nat) (m2:List Int) (Aa:Option Addr) (ca:Nat) (la:List Int) (Ae:Option Addr) (ce:Nat) (le:List Int) (r1:List Int) (r2:Int) (w:World)
    (hr0:Kd.C (Kd.int .u64) w A0 m0.length m0) (hc0:m0.length≤c0) (hr2:Kd.C (Kd.int .u64) w A2 m2.length m2) (hc2:m2.length≤c2) (hra:Kd.C (Kd.int .u64) w Aa la.length la) (hca:la.length≤ca) (hre:Kd.C (Kd.int .u64) w Ae le.length le) (hce:le.length≤ce)
    (h:((sconceref07_Members.f k m0 m1 m2 [la]).bind fun t => if t = true then (if (le.length:Int) > 300 then some (([]:List Int),(2:Int)) else (sconceref03_Of.f k la).bind fun x => (sconceref03_Of.f k le).bind fun y => (sconceref03_Of.f k m0).bind fun z => (sconceref03_ExpMod.f k x y z).bind fun u => (sconceref03_Nat.f k u (m0.length:Int)).bind fun v => some (v,0)) else some ([],1)) = some (r1,r2)) :
    Calls Try.prog 40 #[.agg #[.slice A0 m0.length c0,.int .u64 m1,.slice A2 m2.length c2],.slice Aa la.length ca,.slice Ae le.length ce] w fun e w' => ∃ v0_:Value,e = .returned (.tuple #[v0_,.int .i64 r2])∧Kd.R (Kd.int .u64) 24 w' w.heap.size (fun _ => True) v0_ r1∧Below w.heap.size w w':=by
  have hu59:=Try.underlying26
  cases e1:sconceref07_Members.f k m0 m1 m2 [la] with
  | none => rw [e1] at h;exact absurd h (by simp)
  | some t =>
  rw [e1,Option.bind_some] at h
  have HH:=Aside0.mk h
  have H0:=Aside0.mk hr0
  have HA:=Aside0.mk hra
  have HE:=Aside0.mk hre
  have HMC:=Aside0.mk (fun (W:World) (hW:Below w.heap.size w W) (g:Nat) (hg:W.heap[g]? = some (.cells #[.slice Aa la.length ca] 23 (0,0))) => (show Calls Try.prog 34 #[.agg #[.slice A0 m0.length c0,.int .u64 m1,.slice A2 m2.length c2],.slice (some ⟨g,0,none⟩) 1 1] W _ from sconceref07_Members.calls k A0 c0 m0 m1 A2 c2 m2 _ 1 [la] t W (Kd.C_below hr0 hW) hc0 (Kd.C_below hr2 hW) hc2 (rg_C1 hg (Kd.C_below hra hW) hca) (Nat.le_refl _) e1))
  clear hr0 hr2 hra hre h e1
  go_enter Try.func40,Try.ntmps40
  go_upto_region 1 with ((with_reducible refine gate_dst (N:=3) rfl ?_);refine box_event ?hg (N:=3) ?hd (cs:=#[.slice A0 m0.length c0,.int .u64 m1,.slice A2 m2.length c2]) (t:=26) ?hr ?_;(case hd => rfl);(case hg => rfl);(case hr => first | (go_simp;done) | (go_simp;rfl));intro gb hgb w3 hbox hb;subst hgb;have HX:=Aside0.mk hbox;have HB:=Aside0.mk hb;clear hbox hb)
  have HZ:=Aside0.mk (fun (W:World) (hW:Below w3.heap.size w3 W) => And.intro ((blk_cell (blk_below HX.out hW) 0).trans rfl) (And.intro ((blk_cell (blk_below HX.out hW) 1).trans rfl) ((blk_cell (blk_below HX.out hW) 2).trans rfl)))
  obtain ⟨z0,z1,z2⟩:=HZ.out _ (Below.refl _ _)
  have hl:=below_alloc (Below.refl w3.heap.size w3) (Obj.cells #[.slice Aa la.length ca] 23)
  have HM:=Aside0.mk (HMC.out _ (below_then HB.out HB.out.size hl) _ (blk_new w3 _))
  have HL:=Aside0.mk hl
  clear hl
  cases t with
  | false =>
    obtain ⟨rfl,rfl⟩:r1 = []∧r2 = 1:=by have:=HH.out;simp at this;exact ⟨this.1,this.2.symm⟩
    go_wp2_with (go_at_call 34;(with_reducible refine HM.out.mono ?_);rintro e w4 ⟨rfl,hb4⟩;have HB4:=Aside0.mk (below_then HL.out HL.out.size hb4);clear hb4)
    go_ret2
    exact ⟨_,rfl,Kd.R_nil _ _ _ _ _,below_then HB.out HB.out.size HB4.out⟩
  | true =>
  by_cases h300:(le.length:Int) > 300
  · obtain ⟨rfl,rfl⟩:r1 = []∧r2 = 2:=by have:=HH.out;rw [if_pos rfl,if_pos h300] at this;simp at this;exact ⟨this.1,this.2.symm⟩
    have d1:decide ((le.length:Int) > 300) = true:=decide_eq_true h300
    have d2:decide (300 < le.length) = true:=decide_eq_true (by omega)
    go_wp2_with (go_at_call 34;(with_reducible refine HM.out.mono ?_);rintro e w4 ⟨rfl,hb4⟩;have HB4:=Aside0.mk (below_then HL.out HL.out.size hb4);clear hb4)
    go_ret2
    exact ⟨_,rfl,Kd.R_nil _ _ _ _ _,below_then HB.out HB.out.size HB4.out⟩
  · have d1:decide ((le.length:Int) > 300) = false:=decide_eq_false h300
    have d2:decide (300 < le.length) = false:=decide_eq_false (by omega)
    have hh:=HH.out
    rw [if_pos rfl,if_neg h300] at hh
    obtain ⟨x,hx,hh⟩:=Option.bind_eq_some_iff.1 hh
    obtain ⟨y,hy,hh⟩:=Option.bind_eq_some_iff.1 hh
    obtain ⟨z,hz,hh⟩:=Option.bind_eq_some_iff.1 hh
    obtain ⟨u,hu,hh⟩:=Option.bind_eq_some_iff.1 hh
    obtain ⟨v,hv,hh⟩:=Option.bind_eq_some_iff.1 hh
    obtain ⟨rfl,rfl⟩:v = r1∧0 = r2:=by simpa using hh
    have HOf:=Aside0.mk (show ∀ (l q:List Int) (A:Option Addr) (c:Nat) (W:World),sconceref03_Of.f k l = some q→Kd.C (Kd.int .u64) W A l.length l→l.length≤c→Calls Try.prog 47 #[.slice A l.length c] W fun e w' => ∃ A' c',e = .returned (.slice A' q.length c')∧Bw w' A' c' q∧Below W.heap.size W w' from by
      intro l q A c W h1 h2 h3
      refine (sconceref03_Of.calls k A c l q W h2 h3 h1).mono ?_
      rintro e w' ⟨v',rfl,g1,g2⟩
      obtain ⟨A',c',rfl,g3⟩:=Bw.of_V g1
      exact ⟨A',c',rfl,g3,g2⟩)
    have HEx:=Aside0.mk (show ∀ (A1:Option Addr) (d1:Nat) (A3:Option Addr) (d3:Nat) (A4:Option Addr) (d4:Nat) (W:World),Bw W A1 d1 x→Bw W A3 d3 y→Bw W A4 d4 z→Calls Try.prog 82 #[.slice A1 x.length d1,.slice A3 y.length d3,.slice A4 z.length d4] W fun e w' => ∃ A' c',e = .returned (.slice A' u.length c')∧Bw w' A' c' u∧Below W.heap.size W w' from by
      intro A1 d1 A3 d3 A4 d4 W h1 h3 h4
      refine (sconceref03_ExpMod.calls k _ A1 d1 x A3 d3 y A4 d4 z u W h1.v h3.1 h3.2 h4.1 h4.2 hu).mono ?_
      rintro e w' ⟨v',rfl,g1,g2⟩
      obtain ⟨A',c',rfl,g3⟩:=Bw.of_V g1
      exact ⟨A',c',rfl,g3,g2⟩)
    have HNa:=Aside0.mk (fun (A1:Option Addr) (d1:Nat) (W:World) (h1:Bw W A1 d1 u) => sconceref03_Nat.calls k A1 d1 u (m0.length:Int) v W h1.1 h1.2 hv)
    have HQ:=Aside0.mk (And.intro hx (And.intro hy hz))
    have HW:=Aside0.mk (fun (W:World) (hW:Below w3.heap.size w3 W) => below_then HB.out HB.out.size hW)
    clear hx hy hz hu hv hh HH
    go_upto_region 5 with (go_at_call 34;(with_reducible refine HM.out.mono ?_);rintro e w4 ⟨rfl,hb4⟩;have HP:=Aside0.mk (Below.drew (below_then HL.out HL.out.size hb4));clear hb4)
    clear z0 z1 z2
    go_region_held3 (fun w' => w'.cell? ⟨w.heap.size,0,none⟩ = some (.slice A0 m0.length c0)∧w'.cell? ⟨w.heap.size,1,none⟩ = some (.int .u64 m1)∧w'.cell? ⟨w.heap.size,2,none⟩ = some (.slice A2 m2.length c2)) (first | exact HZ.out _ HP.out)
      (first
        | (go_at_call 47;first
          | ((with_reducible refine (HOf.out la x Aa ca _ HQ.out.1 (Kd.C_below HA.out (HW.out _ HP.out)) hca).mono ?_);clear HA;rintro e w5 ⟨A5,c5,rfl,r5,hb5⟩;have R5:=Aside0.mk r5;have HP:=Aside0.mk (below_then HP.out HP.out.size hb5);clear r5 hb5)
          | ((with_reducible refine (HOf.out le y Ae ce _ HQ.out.2.1 (Kd.C_below HE.out (HW.out _ HP.out)) hce).mono ?_);clear HE;rintro e w6 ⟨A6,c6,rfl,r6,hb6⟩;have R6:=Aside0.mk r6;have R5:=Aside0.mk (R5.out.below hb6);have HP:=Aside0.mk (below_then HP.out HP.out.size hb6);clear r6 hb6)
          | ((with_reducible refine (HOf.out m0 z A0 c0 _ HQ.out.2.2 (Kd.C_below H0.out (HW.out _ HP.out)) hc0).mono ?_);rintro e w7 ⟨A7,c7,rfl,r7,hb7⟩;have R7:=Aside0.mk r7;have R5:=Aside0.mk (R5.out.below hb7);have R6:=Aside0.mk (R6.out.below hb7);have HP:=Aside0.mk (below_then HP.out HP.out.size hb7);clear r7 hb7))
        | (go_at_call 82;(with_reducible refine (HEx.out _ _ _ _ _ _ _ R5.out R6.out R7.out).mono ?_);rintro e w8 ⟨A8,c8,rfl,r8,hb8⟩;have R8:=Aside0.mk r8;have HP:=Aside0.mk (below_then HP.out HP.out.size hb8);clear r8 hb8)
        | (go_at_call 67;(with_reducible refine (HNa.out _ _ _ R8.out).mono ?_);rintro e w9 ⟨v9,rfl,r9,hb9⟩;have R9:=Aside0.mk (Kd.R_lower r9 (HW.out _ HP.out).size);have HP:=Aside0.mk (below_then HP.out HP.out.size hb9);clear r9 hb9))
    go_wp2
    go_ret2
    exact ⟨_,rfl,R9.out,HW.out _ HP.out⟩
end Go.Proofs.Ytonpekldcnankaa.X
end
section
namespace Go.Proofs.Ytonpekldcnankaa.X
open Go.RowKit Go.Proofs.YtonpekldcnankaaW.PrintWords Go.Proofs.YtonpekldcnankaaW.PrintLast Go.Proofs.YtonpekldcnankaaW.PrintMore
attribute [local go_sem] max2_int min2_int max_two min_two max_three min_three max_four min_four
set_option linter.unusedVariables false
set_option linter.unusedSimpArgs false
def sconceref08_Exp.f (k:Nat) (m0:List Int) (m1:Int) (m2:List Int) (la le:List Int):Option (List Int × Int) :=
 (sconceref07_Members.f k m0 m1 m2 [la]).bind fun t => if t = true then (if (le.length:Int) > 300 then some (([]:List Int),(2:Int)) else (sconceref03_Of.f k la).bind fun x => (sconceref03_Of.f k le).bind fun y => (sconceref03_Of.f k m0).bind fun z => (sconceref03_ExpMod.f k x y z).bind fun u => (sconceref03_Nat.f k u (m0.length:Int)).bind fun v => some (v,0)) else some ([],1)
theorem sconceref08_Exp.calls (k:Nat) (A0_0:Option Addr) (c0_0:Nat) (l0_0:List Int) (a0_1:Int) (A0_2:Option Addr) (c0_2:Nat) (l0_2:List Int) (A1:Option Addr) (c1:Nat) (l1:List Int) (A2:Option Addr) (c2:Nat) (l2:List Int) (r1:List Int) (r2:Int) (w:World) (hr0_0:Kd.C (Kd.int .u64) w A0_0 l0_0.length l0_0) (hc0_0:l0_0.length≤c0_0) (hr0_2:Kd.C (Kd.int .u64) w A0_2 l0_2.length l0_2) (hc0_2:l0_2.length≤c0_2) (hr1:Kd.C (Kd.int .u64) w A1 l1.length l1) (hc1:l1.length≤c1) (hr2:Kd.C (Kd.int .u64) w A2 l2.length l2) (hc2:l2.length≤c2) (h:sconceref08_Exp.f k l0_0 a0_1 l0_2 l1 l2 = some (r1,r2)) :
  Calls Try.prog 40 #[.agg #[.slice A0_0 l0_0.length c0_0,.int .u64 a0_1,.slice A0_2 l0_2.length c0_2],.slice A1 l1.length c1,.slice A2 l2.length c2] w fun e w' => ∃ v0_:Value,e = .returned (.tuple #[v0_,.int .i64 r2])∧Kd.R (Kd.int .u64) 24 w' w.heap.size (fun _ => True) v0_ r1∧Below w.heap.size w w' :=
 ref8_Exp_calls k A0_0 c0_0 l0_0 a0_1 A0_2 c0_2 l0_2 A1 c1 l1 A2 c2 l2 r1 r2 w hr0_0 hc0_0 hr0_2 hc0_2 hr1 hc1 hr2 hc2 h
end Go.Proofs.Ytonpekldcnankaa.X
end
section
namespace Go.Proofs.Ytonpekldcnankaa.X
open Go.RowKit Go.Proofs.YtonpekldcnankaaW.PrintWords Go.Proofs.YtonpekldcnankaaW.PrintLast Go.Proofs.Ytonpekldcnankaa.Ma
set_option linter.unusedVariables false
set_option linter.unusedSimpArgs false
theorem sp_MulMod {x y m:Nat} (hm:m≠0) (bx:blen x≤10000) (by':blen y≤10000) (bm:blen m≤10000):Ev (fun k => sconceref03_MulMod.f k (big x) (big y) (big m)) (big (x * y % m)):=by
  have b:=blen_mul bx by'
  unfold sconceref03_MulMod.f
  refine ev_bind (sp_ref_Mul (by omega) (by omega)) (ev_bind0 (a:=big (x * y % m)) ?_ (ev_const rfl))
  unfold sconceref03_Mod.f
  rw [sp_ref_DivMod (by omega) (by omega) hm]
  rfl
end Go.Proofs.Ytonpekldcnankaa.X
end
