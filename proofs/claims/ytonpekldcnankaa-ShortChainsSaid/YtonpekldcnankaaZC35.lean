/- Texts of the walk and of the plain laws, laid together by a program: X32. -/
import Derived.Test.YtonpekldcnankaaZC6
import Derived.Test.YtonpekldcnankaaZC23
namespace Go.Proofs.Ytonpekldcnankaa.X
open Go.RowKit Go.Proofs.YtonpekldcnankaaW.PrintWords Go.Proofs.YtonpekldcnankaaW.PrintLast Go.Proofs.YtonpekldcnankaaW.PrintMore
attribute [local go_sem] max2_int min2_int max_two min_two max_three min_three max_four min_four
set_option linter.unusedVariables false
set_option linter.unusedSimpArgs false
mutual
def mont_Product.l0:Nat→List Int→List Int→Int→List Int→Int→Int→List Int→Int→List Int→Option (List Int)
 | 0,_,_,_,_,_,_,_,_,_ => none
 | k + 1,x2,x3,x9,x10,x24,x25,x522000,x522001,x522002 => if x25 < x24 then ((trace_Trace_Span.f x9).bind fun _ => (mont_Product.l1 k x2 x3 x9 x10 x25 0 x24 x25 x9 0 x522000 x522001 x522002)) else (if 0≤x9 then (if x9≤(x10.length:Int) then ((limbs_Sub.f (x10.take (x9:Int).toNat) x522000).bind fun bt529 => (if x9 < (x10.length:Int) then ((limbs_Select.f (Go.bits .or .u64 (rd x10 x9) (Go.bits .xor .u64 1 bt529.2)) bt529.1 (x10.take (x9:Int).toNat)).bind fun t538 => (some t538)) else (none))) else (none)) else (none))
def mont_Product.l1:Nat→List Int→List Int→Int→List Int→Int→Int→Int→Int→Int→Int→List Int→Int→List Int→Option (List Int)
 | 0,_,_,_,_,_,_,_,_,_,_,_,_,_ => none
 | k + 1,x2,x3,x9,x10,x11,x12,x24,x25,x31,x32,x522000,x522001,x522002 => if x32 < x31 then (if 0≤x11 then (if x11 < (x2.length:Int) then (if 0≤x32 then (if x32 < (x3.length:Int) then (if x32 < (x10.length:Int) then ((word_Mul.f (rd x2 x11) (rd x3 x32) (rd x10 x32) x12).bind fun bt544 => (mont_Product.l1 k x2 x3 x9 (x10.set (x32:Int).toNat bt544.2) x11 bt544.1 x24 x25 x31 (wrap64 (x32 + 1)) x522000 x522001 x522002)) else (none)) else (none)) else (none)) else (none)) else (none)) else (if 0≤x9 then (if x9 < (x10.length:Int) then ((word_Add.f (rd x10 x9) x12 0).bind fun bt548 => (if 0≤(wrap64 (x9 + 1)) then (if (wrap64 (x9 + 1)) < (x10.length:Int) then ((some ((x10.set (x9:Int).toNat bt548.1).set ((wrap64 (x9 + 1)):Int).toNat bt548.2:List Int)).bind fun y551 => (if 0 < (x10.length:Int) then (if 0 < (x522000.length:Int) then ((word_Mul.f (IntKind.u64.wrap ((rd y551 0) * x522001)) (rd x522000 0) (rd y551 0) 0).bind fun bt555 => (mont_Product.l2 k x2 x3 x9 y551 bt555.1 (IntKind.u64.wrap ((rd y551 0) * x522001)) 1 x24 x25 x522000 x522001 x522002)) else (none)) else (none))) else (none)) else (none))) else (none)) else (none))
def mont_Product.l2:Nat→List Int→List Int→Int→List Int→Int→Int→Int→Int→Int→List Int→Int→List Int→Option (List Int)
 | 0,_,_,_,_,_,_,_,_,_,_,_,_ => none
 | k + 1,x2,x3,x9,x10,x12,x14,x15,x24,x25,x522000,x522001,x522002 => if x15 < x9 then (if 0≤x15 then (if x15 < (x522000.length:Int) then (if x15 < (x10.length:Int) then ((word_Mul.f x14 (rd x522000 x15) (rd x10 x15) x12).bind fun bt559 => (if 0≤(wrap64 (x15 - 1)) then (if (wrap64 (x15 - 1)) < (x10.length:Int) then (mont_Product.l2 k x2 x3 x9 (x10.set ((wrap64 (x15 - 1)):Int).toNat bt559.2) bt559.1 x14 (wrap64 (x15 + 1)) x24 x25 x522000 x522001 x522002) else (none)) else (none))) else (none)) else (none)) else (none)) else (if 0≤x9 then (if x9 < (x10.length:Int) then ((word_Add.f (rd x10 x9) x12 0).bind fun bt563 => (if 0≤(wrap64 (x9 - 1)) then (if (wrap64 (x9 - 1)) < (x10.length:Int) then ((some (x10.set ((wrap64 (x9 - 1)):Int).toNat bt563.1:List Int)).bind fun y565 => (if 0≤(wrap64 (x9 + 1)) then (if (wrap64 (x9 + 1)) < (x10.length:Int) then (mont_Product.l0 k x2 x3 x9 (y565.set (x9:Int).toNat (IntKind.u64.wrap ((rd y565 (wrap64 (x9 + 1))) + bt563.2))) x24 (wrap64 (x25 + 1)) x522000 x522001 x522002) else (none)) else (none))) else (none)) else (none))) else (none)) else (none))
end
def mont_Product.f (k:Nat)  (l1_0:List Int) (a1_1:Int) (l1_2:List Int) (l2:List Int) (l3:List Int):Option (List Int):=if 0≤(wrap64 ((l1_0.length:Int) + 2)) then (if (wrap64 ((l1_0.length:Int) + 2):Int).toNat≤35184372088832 then (mont_Product.l0 k l2 l3 (l1_0.length:Int) (List.replicate (wrap64 ((l1_0.length:Int) + 2):Int).toNat 0) (l1_0.length:Int) 0 l1_0 a1_1 l1_2) else (none)) else (none)
def mont_Product.T11:Bool × List (List Nat × List Nat):=(true,[([],[]),([],[]),([],[]),([],[]),([2,3],[2,3]),([4],[4]),([],[]),([],[]),([6,7],[6,7]),([8],[8]),([],[]),([],[]),([10,11],[10,11]),([12],[12]),([],[]),([5,9,13,14],[5,9,13,14]),([15],[15]),([16],[16]),([16],[16]),([17,15,2,3,4,5,6,7,8,9,10,11,12,13,14,15,16,17],[14,17]),([0,1,0,1,2,3,4,5,6,7,8,9,10,11,12,13,14,15,16,17,18,19],[0,1]),([20,18,19,0,1,2,3,4,5,6,7,8,9,10,11,12,13,14,15,16,17,18,19],[18,20])])
def mont_Product.B11:List Nat:=[0,0,0,0,12,28,0,0,192,448,0,0,3072,7168,0,32764,65532,131068,131068,262140,1048575,2097151]
theorem mont_Product.tab11:rtab .any (opsOf Try.f109 11) = mont_Product.T11:=by kernel_rfl
theorem mont_Product.bits11:waitsOk mont_Product.T11.2 mont_Product.B11 = true:=by kernel_rfl
def mont_Product.T16:Bool × List (List Nat × List Nat):=(true,[([],[]),([],[]),([1],[1]),([2],[2]),([3],[3]),([],[]),([5],[5]),([6],[6]),([0,4,7],[0,4,7]),([8],[8]),([9],[9]),([9],[9]),([10,8,0,1,2,3,4,5,6,7,8,9,10],[10])])
def mont_Product.B16:List Nat:=[0,0,2,6,14,0,32,96,255,511,1023,1023,2047]
theorem mont_Product.tab16:rtab .any (opsOf Try.f109 16) = mont_Product.T16:=by kernel_rfl
theorem mont_Product.bits16:waitsOk mont_Product.T16.2 mont_Product.B16 = true:=by kernel_rfl
def mont_Product.T20:Bool × List (List Nat × List Nat):=(true,[([],[]),([],[]),([1],[1]),([],[]),([],[]),([4],[4]),([],[]),([5,6],[5,6]),([7],[7]),([],[]),([],[]),([9,10],[9,10]),([11],[11]),([],[]),([3,8,12,13],[3,8,12,13]),([14],[14]),([15],[15]),([15],[15]),([16,14,3,4,5,6,7,8,9,10,11,12,13,14,15,16],[13,16]),([0,2,0,1,2,3,4,5,6,7,8,9,10,11,12,13,14,15,16,17,18],[0,2]),([19,17,18,0,1,2,3,4,5,6,7,8,9,10,11,12,13,14,15,16,17,18],[17,19])])
def mont_Product.B20:List Nat:=[0,0,2,0,0,16,0,112,240,0,0,1536,3584,0,16376,32760,65528,65528,131064,524287,1048575]
theorem mont_Product.tab20:rtab .any (opsOf Try.f109 20) = mont_Product.T20:=by kernel_rfl
theorem mont_Product.bits20:waitsOk mont_Product.T20.2 mont_Product.B20 = true:=by kernel_rfl
def mont_Product.T24:Bool × List (List Nat × List Nat):=(true,[([],[]),([],[]),([],[]),([1,2],[1,2]),([],[]),([4],[4]),([0,3,5],[0,3,5]),([6],[6]),([7],[7]),([7],[7]),([8,6,0,1,2,3,4,5,6,7,8],[8]),([9,10,0,1,2,3,4,5,6,7,8,9,10],[9])])
def mont_Product.B24:List Nat:=[0,0,0,6,0,16,63,127,255,255,511,2047]
theorem mont_Product.tab24:rtab .any (opsOf Try.f109 24) = mont_Product.T24:=by kernel_rfl
theorem mont_Product.bits24:waitsOk mont_Product.T24.2 mont_Product.B24 = true:=by kernel_rfl
def mont_Product.T25:Bool × List (List Nat × List Nat):=(true,[([],[]),([],[]),([],[]),([1,2],[1,2]),([3],[3]),([],[]),([5],[5]),([4,6],[4,6]),([],[]),([],[]),([],[]),([9,10],[9,10]),([0,7,8,11],[0,7,8,11]),([12,12,0,1,2,3,4,5,6,7,8,9,10,11,12],[12])])
def mont_Product.B25:List Nat:=[0,0,0,6,14,0,32,126,0,0,0,1536,4095,8191]
theorem mont_Product.tab25:rtab .any (opsOf Try.f109 25) = mont_Product.T25:=by kernel_rfl
theorem mont_Product.bits25:waitsOk mont_Product.T25.2 mont_Product.B25 = true:=by kernel_rfl
set_option maxHeartbeats 8000000 in
set_option maxRecDepth 100000 in
theorem mont_Product.calls (k:Nat)  (A1_0:Option Addr) (c1_0:Nat) (l1_0:List Int) (a1_1:Int) (A1_2:Option Addr) (c1_2:Nat) (l1_2:List Int) (A2:Option Addr) (c2:Nat) (l2:List Int) (A3:Option Addr) (c3:Nat) (l3:List Int) (r:List Int) (w:World) (hr1_0:Kd.C (Kd.int .u64) w A1_0 l1_0.length l1_0) (hc1_0:l1_0.length≤c1_0) (hr1_2:Kd.C (Kd.int .u64) w A1_2 l1_2.length l1_2) (hc1_2:l1_2.length≤c1_2) (hr2:Kd.C (Kd.int .u64) w A2 l2.length l2) (hc2:l2.length≤c2) (hr3:Kd.C (Kd.int .u64) w A3 l3.length l3) (hc3:l3.length≤c3) (h:mont_Product.f k l1_0 a1_1 l1_2 l2 l3 = some r) :
  Calls Try.prog 109 #[.pointer none,.agg #[.slice A1_0 l1_0.length c1_0,.int .u64 a1_1,.slice A1_2 l1_2.length c1_2],.slice A2 l2.length c2,.slice A3 l3.length c3] w fun e w' => ∃ v0_:Value,e = .returned (v0_)∧Kd.R (Kd.int .u64) 24 w' w.heap.size (fun _ => True) v0_ r∧Below w.heap.size w w':=by
 have hu26:=Try.underlying26
 have HR1_0:=Aside0.mk hr1_0
 have HC1_0:=Aside0.mk hc1_0
 clear hr1_0 hc1_0
 have HR1_2:=Aside0.mk hr1_2
 have HC1_2:=Aside0.mk hc1_2
 clear hr1_2 hc1_2
 have HR2:=Aside0.mk hr2
 have HC2:=Aside0.mk hc2
 clear hr2 hc2
 have HR3:=Aside0.mk hr3
 have HC3:=Aside0.mk hc3
 clear hr3 hc3
 have HB:=Aside0.mk (Below.refl w.heap.size w)
 have H:(if 0≤(wrap64 ((l1_0.length:Int) + 2)) then (if (wrap64 ((l1_0.length:Int) + 2):Int).toNat≤35184372088832 then (mont_Product.l0 k l2 l3 (l1_0.length:Int) (List.replicate (wrap64 ((l1_0.length:Int) + 2):Int).toNat 0) (l1_0.length:Int) 0 l1_0 a1_1 l1_2) else (none)) else (none)) = some r:=h
 clear h
 obtain ⟨ji5,hji5⟩:∃ j_:Int,(wrap64 ((l1_0.length:Int) + 2)) = j_:=⟨_,rfl⟩
 replace H:(if 0≤(ji5) then (if (ji5:Int).toNat≤35184372088832 then (mont_Product.l0 k l2 l3 (l1_0.length:Int) (List.replicate (ji5:Int).toNat 0) (l1_0.length:Int) 0 l1_0 a1_1 l1_2) else (none)) else (none)) = some r:=by first | (rw [hji5] at H;exact H) | (simp only [hji5] at H ⊢;exact H)
 have hji5w:(IntKind.i64.wrap ((l1_0.length:Int) + 2)) = ji5:=(i64_w _).trans hji5
 by_cases c6:0≤(ji5)
 ·
  rw [if_pos c6] at H
  have c6b0:=eq_true c6
  have c6b1:decide (0≤(ji5)) = true:=decide_eq_true c6
  clear c6
  by_cases c7:(ji5:Int).toNat≤35184372088832
  ·
   rw [if_pos c7] at H
   have c7b0:=eq_true c7
   have c7b1:decide ((ji5:Int).toNat≤35184372088832) = true:=decide_eq_true c7
   clear c7
   obtain ⟨y522,hy522⟩:∃ y_:List Int,y_ = (List.replicate (ji5:Int).toNat 0):=⟨_,rfl⟩
   replace H:(mont_Product.l0 k l2 l3 (l1_0.length:Int) y522 (l1_0.length:Int) 0 l1_0 a1_1 l1_2) = some r:=by first | (rw [hy522];with_reducible exact H) | (have H2_:=(Option.bind_some _ _).symm.trans H;rw [hy522];with_reducible exact H2_) | (have H2_:=(Option.bind_some _ _).symm.trans H;with_reducible exact H2_) | with_reducible exact H | (rw [hy522];exact H) | exact H
   have Ny522:=Aside0.mk hy522
   clear hy522
   have H':=Aside0.mk H
   clear H
   go_enter Try.func109,Try.ntmps109
   go_wp2_with (first | ((with_reducible refine gate_dst (N:=5) rfl ?_);refine box_event ?hg (N:=5) ?hd (cs:=#[.slice A1_0 l1_0.length c1_0,.int .u64 a1_1,.slice A1_2 l1_2.length c1_2]) (t:=26) ?hr ?_;(case hd => rfl);(case hg => rfl);(case hr => first | (go_simp;done) | (go_simp;rfl));intro gb521 hg w8 hbox hb;have n0_:=Aside0.mk (below_step (vB HB.out) hb);have n1_:=Aside0.mk (hbox);have n2_:=Aside0.mk ((by rw [hg];exact (below_size (vB HB.out)):w.heap.size≤gb521));have n3_:=Aside0.mk ((by rw [hg];exact (below_size (vB HB.out)):w.heap.size≤gb521));clear HB;have HB:=n0_;have BK521:=n1_;have GW521:=n2_;have GE521:=n3_;clear n0_ n1_ n2_ n3_;clear hb hbox hg;have hcz9_0:w8.cell? ⟨gb521,0,none⟩ = some (.slice A1_0 l1_0.length c1_0):=(blk_cell BK521.out 0).trans rfl;have hcz9_1:w8.cell? ⟨gb521,1,none⟩ = some (.int .u64 a1_1):=(blk_cell BK521.out 1).trans rfl;have hcz9_2:w8.cell? ⟨gb521,2,none⟩ = some (.slice A1_2 l1_2.length c1_2):=(blk_cell BK521.out 2).trans rfl;have hfz9_0:=blk_frozen BK521.out 0;have hfz9_1:=blk_frozen BK521.out 1;have hfz9_2:=blk_frozen BK521.out 2) | ((with_reducible refine gate_dst (N:=23) rfl ?_);refine Kd.R_make (Kd.int .u64) _ 24 rfl (N:=23) rfl 23 _ _ rfl ji5 rfl rfl Try.underlying23 (.int .u64 0) 8 info24 rfl (by decide) (by omega) 0 (ok:=fun _ => True) (okp:=fun _ => True) rfl (fun _ hk => hk) trivial (of_decide_eq_true vD) (Nat.le_trans (Nat.mul_le_mul_right _ (of_decide_eq_true vD:ji5.toNat≤35184372088832)) (by omega)) (Below.refl _ _) (Nat.le_refl _) ?_;intro v523 w10 ho11 hb hg_ hnew_;clear hg_ hnew_;(first | rw [← Ny522.out] at ho11 | (simp only [Int.reduceToNat] at ho11;rw [← Ny522.out] at ho11));have n0_:=Aside0.mk (Kd.R_lower ho11 (below_size (vBg HB.out GE521.out)));have n1_:=Aside0.mk (blk_below (g:=gb521) (o:=.cells #[.slice A1_0 l1_0.length c1_0,.int .u64 a1_1,.slice A1_2 l1_2.length c1_2] 26 (0,0)) (vK BK521.out) hb);have n2_:=Aside0.mk (below_step (vBg HB.out GE521.out) hb);clear BK521;clear HB;have HO524:=n0_;have BK521:=n1_;have HB:=n2_;clear n0_ n1_ n2_;clear hb ho11))
   go_loopg [25] k (fun kq v25 w' => ∃ (x10_1:List Int) (x25_1:Int),v25 = .int .i64 x25_1∧Aside0 (mont_Product.l0 kq l2 l3 (l1_0.length:Int) x10_1 (l1_0.length:Int) x25_1 l1_0 a1_1 l1_2 = some r)∧Aside0 (kq≤k)∧Aside0 (Kd.R (Kd.int .u64) 24 w' w.heap.size (fun _ => True) v523 x10_1)∧Aside0 (w'.heap[gb521]? = some (.cells #[(.slice A1_0 l1_0.length c1_0),.int .u64 a1_1,(.slice A1_2 l1_2.length c1_2)] 26 (0,0)))∧Aside0 (Below w.heap.size w w'))
   case atStart => exact ⟨(y522),(0),(by first | rfl | (simp;done) | (simp [*];done)),H',⟨Nat.le_refl _⟩,⟨by (with_reducible repeat (first | apply Kd.R_alloc | apply Kd.R_drewN | apply Kd.R_drew));exact HO524.out⟩,⟨by (with_reducible repeat (first | refine blk_drewN ?_ _ | refine blk_drew ?_ | refine blk_alloc ?_ _));exact BK521.out⟩,⟨by repeat (first | (with_reducible first | exact HB.out | apply below_alloc | apply pw_below_drewN | apply below_drew1 | refine below_set ?_ GE521.out) | exact HB.out)⟩⟩
   case round =>
    clear H'
    try clear c1
    try clear c2
    try clear p2
    try clear c3
    try clear c6
    try clear c6b0
    try clear c6b1
    try clear p6
    try clear c7
    try clear c7b0
    try clear c7b1
    try clear c10
    try clear hcz9_0
    try clear hcz9_1
    try clear hcz9_2
    try clear hfz9_0
    try clear hfz9_1
    try clear hfz9_2
    obtain ⟨x10_1,x25_1,rfl,HA,HK1,HO_10,BK521,HB⟩:=hrel
    cases gk with
    | zero => exact absurd HA.out (by simp [mont_Product.l0])
    | succ k1 =>
     have H:=HA.out
     clear HA
     simp only [mont_Product.l0] at H
     by_cases c12:x25_1 < (l1_0.length:Int)
     ·
      rw [if_pos c12] at H
      have c12b0:decide (x25_1 < (l1_0.length:Int)) = true:=decide_eq_true c12
      clear c12
      replace H:=Option.bind_eq_some_iff.mp H
      obtain ⟨_,A130,H⟩:=H
      replace H:(mont_Product.l1 k1 l2 l3 (l1_0.length:Int) x10_1 x25_1 0 (l1_0.length:Int) x25_1 (l1_0.length:Int) 0 l1_0 a1_1 l1_2) = some r:=H
      have A13:=Aside0.mk A130
      clear A130
      have H':=Aside0.mk H
      clear H
      go_wp2_with (first | ((with_reducible refine gate_callee (f:=145) rfl ?_);refine goesL_ (some 30) rfl rfl Try.func145 (by kernel_rfl) rfl #[.pointer none,.int .i64 (l1_0.length:Int)] rfl vA ?_;(with_reducible refine (trace_Trace_Span.calls  (l1_0.length:Int)  _ A13.out).mono ?_);rintro e w14 ⟨rfl,hb⟩;refine ⟨_,rfl,?_⟩;have n0_:=Aside0.mk (Kd.R_below (vR HO_10.out) hb);have n1_:=Aside0.mk (blk_below (g:=gb521) (o:=.cells #[.slice A1_0 l1_0.length c1_0,.int .u64 a1_1,.slice A1_2 l1_2.length c1_2] 26 (0,0)) (vK BK521.out) hb);have n2_:=Aside0.mk (below_step (vBg HB.out GE521.out) hb);clear HO_10;clear BK521;clear HB;have HO_10:=n0_;have BK521:=n1_;have HB:=n2_;clear n0_ n1_ n2_;(try clear hb);(try clear hb2);(try clear hk);(try clear hi)))
      go_loopg [12,32] k1 (fun kq v12 v32 w' => ∃ (x10_2:List Int) (x12_2:Int) (x32_2:Int),v12 = .int .u64 x12_2∧v32 = .int .i64 x32_2∧Aside0 (mont_Product.l1 kq l2 l3 (l1_0.length:Int) x10_2 x25_1 x12_2 (l1_0.length:Int) x25_1 (l1_0.length:Int) x32_2 l1_0 a1_1 l1_2 = some r)∧Aside0 (kq≤k1)∧Aside0 (Kd.R (Kd.int .u64) 24 w' w.heap.size (fun _ => True) v523 x10_2)∧Aside0 (w'.heap[gb521]? = some (.cells #[(.slice A1_0 l1_0.length c1_0),.int .u64 a1_1,(.slice A1_2 l1_2.length c1_2)] 26 (0,0)))∧Aside0 (Below w.heap.size w w'))
      case atStart => exact ⟨(x10_1),(0),(0),(by first | rfl | (simp;done) | (simp [*];done)),(by first | rfl | (simp;done) | (simp [*];done)),H',⟨Nat.le_refl _⟩,⟨by (with_reducible repeat (first | apply Kd.R_alloc | apply Kd.R_drewN | apply Kd.R_drew));exact HO_10.out⟩,⟨by (with_reducible repeat (first | refine blk_drewN ?_ _ | refine blk_drew ?_ | refine blk_alloc ?_ _));exact BK521.out⟩,⟨by repeat (first | (with_reducible first | exact HB.out | apply below_alloc | apply pw_below_drewN | apply below_drew1 | refine below_set ?_ GE521.out) | exact HB.out)⟩⟩
      case round =>
       clear H'
       try clear c1
       try clear c2
       try clear p2
       try clear c3
       try clear c6
       try clear c6b0
       try clear c6b1
       try clear p6
       try clear c7
       try clear c7b0
       try clear c7b1
       try clear c10
       try clear c12
       try clear c12b0
       try clear c14
       try clear hcz9_0
       try clear hcz9_1
       try clear hcz9_2
       try clear hfz9_0
       try clear hfz9_1
       try clear hfz9_2
       try clear p2
       try clear p6
       obtain ⟨x10_2,x12_2,x32_2,rfl,rfl,HA,HK2,HO_10,BK521,HB⟩:=hrel
       cases gk with
       | zero => exact absurd HA.out (by simp [mont_Product.l1])
       | succ k2 =>
        have H:=HA.out
        clear HA
        simp only [mont_Product.l1] at H
        by_cases c15:x32_2 < (l1_0.length:Int)
        ·
         rw [if_pos c15] at H
         have c15b0:decide (x32_2 < (l1_0.length:Int)) = true:=decide_eq_true c15
         clear c15
         by_cases c16:0≤x25_1
         ·
          rw [if_pos c16] at H
          have c16b0:decide (0≤x25_1) = true:=decide_eq_true c16
          clear c16
          by_cases c17:x25_1 < (l2.length:Int)
          ·
           rw [if_pos c17] at H
           have c17b0:decide (x25_1 < (l2.length:Int)) = true:=decide_eq_true c17
           clear c17
           by_cases c18:0≤x32_2
           ·
            rw [if_pos c18] at H
            have c18b0:decide (0≤x32_2) = true:=decide_eq_true c18
            clear c18
            by_cases c19:x32_2 < (l3.length:Int)
            ·
             rw [if_pos c19] at H
             have c19b0:decide (x32_2 < (l3.length:Int)) = true:=decide_eq_true c19
             clear c19
             by_cases c20:x32_2 < (x10_2.length:Int)
             ·
              rw [if_pos c20] at H
              have c20b0:decide (x32_2 < (x10_2.length:Int)) = true:=decide_eq_true c20
              clear c20
              replace H:=Option.bind_eq_some_iff.mp H
              obtain ⟨⟨t544,t545⟩,A210,H⟩:=H
              replace H:(mont_Product.l1 k2 l2 l3 (l1_0.length:Int) (x10_2.set (x32_2:Int).toNat t545) x25_1 t544 (l1_0.length:Int) x25_1 (l1_0.length:Int) (wrap64 (x32_2 + 1)) l1_0 a1_1 l1_2) = some r:=H
              have A21:=Aside0.mk A210
              clear A210
              obtain ⟨y546,hy546⟩:∃ y_:List Int,y_ = (x10_2.set (x32_2:Int).toNat t545):=⟨_,rfl⟩
              replace H:(mont_Product.l1 k2 l2 l3 (l1_0.length:Int) y546 x25_1 t544 (l1_0.length:Int) x25_1 (l1_0.length:Int) (wrap64 (x32_2 + 1)) l1_0 a1_1 l1_2) = some r:=by first | (rw [hy546];with_reducible exact H) | (have H2_:=(Option.bind_some _ _).symm.trans H;rw [hy546];with_reducible exact H2_) | (have H2_:=(Option.bind_some _ _).symm.trans H;with_reducible exact H2_) | with_reducible exact H | (rw [hy546];exact H) | exact H
              have Ny546:=Aside0.mk hy546
              clear hy546
              have H':=Aside0.mk H
              clear H
              try go_wp2
              have n0_:=Aside0.mk (Kd.R_drew HO_10.out)
              have n1_:=Aside0.mk (blk_drew BK521.out)
              have n2_:=Aside0.mk (below_drew1 HB.out)
              clear HO_10
              clear BK521
              clear HB
              have HO_10:=n0_
              have BK521:=n1_
              have HB:=n2_
              clear n0_ n1_ n2_
              have p541:0≤(x25_1:Int):=of_decide_eq_true vD
              have q541:x25_1 < (l2.length:Int):=of_decide_eq_true vD
              obtain ⟨ad541,e541,hx541_0⟩:=Kd.at_int HR2.out x25_1 p541 q541
              have hw541_0:=hx541_0
              cases e541
              replace hx541_0:=(HB.out.cell (World.block_lt_of_cell? w _ hx541_0)).trans hx541_0
              replace p541:=eq_true p541
              replace q541:=eq_true q541
              have p542:0≤(x32_2:Int):=of_decide_eq_true vD
              have q542:x32_2 < (l3.length:Int):=of_decide_eq_true vD
              obtain ⟨ad542,e542,hx542_0⟩:=Kd.at_int HR3.out x32_2 p542 q542
              have hw542_0:=hx542_0
              cases e542
              replace hx542_0:=(HB.out.cell (World.block_lt_of_cell? w _ hx542_0)).trans hx542_0
              replace p542:=eq_true p542
              replace q542:=eq_true q542
              obtain ⟨Ao24,co24,eo24⟩:=Kd.R_slice HO_10.out
              (first | subst eo24 | (injection eo24 with f1_ f2_ f3_;have f4_:=f1_.symm;have f5_:=f3_.symm;clear f1_ f2_ f3_;subst f4_;subst f5_))
              have p543:0≤(x32_2:Int):=of_decide_eq_true vD
              have q543:x32_2 < (x10_2.length:Int):=of_decide_eq_true vD
              obtain ⟨ad543,e543,hx543_0⟩:=Kd.at_int (Kd.R_reads' HO_10.out).2.2 x32_2 p543 q543
              cases e543
              replace p543:=eq_true p543
              replace q543:=eq_true q543
              refine start_ (n:=22) (S:=fun w' => w'.cell? (ad541.add (x25_1).toNat) = some (.int .u64 (rd l2 x25_1))∧w'.cell? (ad542.add (x32_2).toNat) = some (.int .u64 (rd l3 x32_2))∧w'.cell? (ad543.add (x32_2).toNat) = some (.int .u64 (rd x10_2 x32_2))) (ds:=[21]) #[false,false,false,false,false,false,false,false,false,false,false,false,false,false,false,false,false,false,false,false,false,false] (by kernel_rfl) rfl rfl ⟨((HB.out.cell (World.block_lt_of_cell? w _ hw541_0)).trans hw541_0),((HB.out.cell (World.block_lt_of_cell? w _ hw542_0)).trans hw542_0),hx543_0⟩ (fun hHeld => ?_);refine with_tabW mont_Product.tab11 mont_Product.bits11 (fun HT_ HW_ => ?_)
              generalize wr.drew = w23 at HO_10 BK521 HB hx541_0 hx542_0 hx543_0 hHeld ⊢
              refine pure_ (i:=0) (N:=some 36) (v:=?_) (a':=?_) #[true,false,false,false,false,false,false,false,false,false,false,false,false,false,false,false,false,false,false,false,false,false] rfl rfl (any_of HT_.out (by kernel_rfl)) (fun _ _ _ h => h) (Or.inl ⟨by rfl,?_⟩) ?_ ?_
              rotate_left
              ·
               exact vQ
              rotate_left
              ·
               exact vP
              refine pure_ (i:=1) (N:=some 37) (v:=?_) (a':=?_) #[true,true,false,false,false,false,false,false,false,false,false,false,false,false,false,false,false,false,false,false,false,false] rfl rfl (any_of HT_.out (by kernel_rfl)) (fun _ _ _ h => h) (Or.inl ⟨by rfl,?_⟩) ?_ ?_
              rotate_left
              ·
               exact vQ
              rotate_left
              ·
               exact vP
              refine pure_ (i:=2) (N:=some 38) (v:=?_) (a':=?_) #[true,true,true,false,false,false,false,false,false,false,false,false,false,false,false,false,false,false,false,false,false,false] rfl rfl (any_of HT_.out (by kernel_rfl)) (fun _ _ _ h => h) (Or.inl ⟨by rfl,?_⟩) ?_ ?_
              rotate_left
              ·
               exact vQ
              rotate_left
              ·
               exact vP
              refine pure_ (i:=3) (N:=some 39) (v:=?_) (a':=?_) #[true,true,true,true,false,false,false,false,false,false,false,false,false,false,false,false,false,false,false,false,false,false] rfl rfl (any_of HT_.out (by kernel_rfl)) (fun _ _ _ h => h) (Or.inl ⟨by rfl,?_⟩) ?_ ?_
              rotate_left
              ·
               exact vQ
              rotate_left
              ·
               exact vP
              refine pure_ (i:=4) (N:=some 40) (v:=?_) (a':=?_) #[true,true,true,true,true,false,false,false,false,false,false,false,false,false,false,false,false,false,false,false,false,false] rfl rfl (any_of HT_.out (by kernel_rfl)) (fun _ _ _ h => h) (Or.inl ⟨by rfl,?_⟩) ?_ ?_
              rotate_left
              ·
               exact vQ
              rotate_left
              ·
               exact vP
              refine pure_ (i:=6) (N:=some 42) (v:=?_) (a':=?_) #[true,true,true,true,true,false,true,false,false,false,false,false,false,false,false,false,false,false,false,false,false,false] rfl rfl (any_of HT_.out (by kernel_rfl)) (fun _ _ _ h => h) (Or.inl ⟨by rfl,?_⟩) ?_ ?_
              rotate_left
              ·
               exact vQ
              rotate_left
              ·
               exact vP
              refine pure_ (i:=7) (N:=some 43) (v:=?_) (a':=?_) #[true,true,true,true,true,false,true,true,false,false,false,false,false,false,false,false,false,false,false,false,false,false] rfl rfl (any_of HT_.out (by kernel_rfl)) (fun _ _ _ h => h) (Or.inl ⟨by rfl,?_⟩) ?_ ?_
              rotate_left
              ·
               exact vQ
              rotate_left
              ·
               exact vP
              refine pure_ (i:=8) (N:=some 44) (v:=?_) (a':=?_) #[true,true,true,true,true,false,true,true,true,false,false,false,false,false,false,false,false,false,false,false,false,false] rfl rfl (any_of HT_.out (by kernel_rfl)) (fun _ _ _ h => h) (Or.inl ⟨by rfl,?_⟩) ?_ ?_
              rotate_left
              ·
               exact vQ
              rotate_left
              ·
               exact vP
              refine pure_ (i:=10) (N:=some 46) (v:=?_) (a':=?_) #[true,true,true,true,true,false,true,true,true,false,true,false,false,false,false,false,false,false,false,false,false,false] rfl rfl (any_of HT_.out (by kernel_rfl)) (fun _ _ _ h => h) (Or.inl ⟨by rfl,?_⟩) ?_ ?_
              rotate_left
              ·
               exact vQ
              rotate_left
              ·
               exact vP
              refine pure_ (i:=11) (N:=some 47) (v:=?_) (a':=?_) #[true,true,true,true,true,false,true,true,true,false,true,true,false,false,false,false,false,false,false,false,false,false] rfl rfl (any_of HT_.out (by kernel_rfl)) (fun _ _ _ h => h) (Or.inl ⟨by rfl,?_⟩) ?_ ?_
              rotate_left
              ·
               exact vQ
              rotate_left
              ·
               exact vP
              refine pure_ (i:=12) (N:=some 48) (v:=?_) (a':=?_) #[true,true,true,true,true,false,true,true,true,false,true,true,true,false,false,false,false,false,false,false,false,false] rfl rfl (any_of HT_.out (by kernel_rfl)) (fun _ _ _ h => h) (Or.inl ⟨by rfl,?_⟩) ?_ ?_
              rotate_left
              ·
               exact vQ
              rotate_left
              ·
               exact vP
              refine pure_ (i:=14) (N:=some 50) (v:=?_) (a':=?_) #[true,true,true,true,true,false,true,true,true,false,true,true,true,false,true,false,false,false,false,false,false,false] rfl rfl (any_of HT_.out (by kernel_rfl)) (fun _ _ _ h => h) (Or.inl ⟨by rfl,?_⟩) ?_ ?_
              rotate_left
              ·
               exact vQ
              rotate_left
              ·
               exact vP
              refine take_ (i:=5) (N:=some 41) (v:=?_) (a':=?_) #[true,true,true,true,true,true,true,true,true,false,true,true,true,false,true,false,false,false,false,false,false,false] rfl rfl (take_ofW HT_.out HW_.out (by kernel_rfl)) (fun _ _ _ h => h) (Or.inl ⟨by rfl,?_⟩) hHeld ?_ ?_
              rotate_left
              ·
               rintro w' ⟨s0,s1,s2⟩
               go_simp
               with_reducible rfl
              rotate_left
              ·
               exact vP
              refine take_ (i:=9) (N:=some 45) (v:=?_) (a':=?_) #[true,true,true,true,true,true,true,true,true,true,true,true,true,false,true,false,false,false,false,false,false,false] rfl rfl (take_ofW HT_.out HW_.out (by kernel_rfl)) (fun _ _ _ h => h) (Or.inl ⟨by rfl,?_⟩) hHeld ?_ ?_
              rotate_left
              ·
               rintro w' ⟨s0,s1,s2⟩
               go_simp
               with_reducible rfl
              rotate_left
              ·
               exact vP
              refine take_ (i:=13) (N:=some 49) (v:=?_) (a':=?_) #[true,true,true,true,true,true,true,true,true,true,true,true,true,true,true,false,false,false,false,false,false,false] rfl rfl (take_ofW HT_.out HW_.out (by kernel_rfl)) (fun _ _ _ h => h) (Or.inl ⟨by rfl,?_⟩) hHeld ?_ ?_
              rotate_left
              ·
               rintro w' ⟨s0,s1,s2⟩
               go_simp
               with_reducible rfl
              rotate_left
              ·
               exact vP
              refine one_ (i:=15) (N:=some 51) #[true,true,true,true,true,true,true,true,true,true,true,true,true,true,true,true,false,false,false,false,false,false] rfl rfl (one_of HT_.out (by kernel_rfl)) (by decide) (fun K hK => ?_)
              refine goes_ Try.func149 (by kernel_rfl) rfl #[.int .u64 (rd l2 x25_1),.int .u64 (rd l3 x32_2),.int .u64 (rd x10_2 x32_2),.int .u64 x12_2] (by rfl) rfl rfl vA ?_
              with_reducible refine (word_Mul.calls (rd l2 x25_1) (rd l3 x32_2) (rd x10_2 x32_2) x12_2 t544 t545 _ A21.out).mono ?_
              rintro e w' ⟨rfl,⟨nd,rfl⟩⟩
              refine ⟨_,rfl,?_⟩
              have p22:0≤(x32_2:Int):=of_decide_eq_true vD
              have q22:(x32_2:Int) < ((x10_2.length:Int):Int):=of_decide_eq_true vD
              obtain ⟨go22,co22,eo22,gb22,gl22,cl22,HG22⟩:=Kd.R_form HO_10.out (by omega)
              (first | cases eo22 | (injection eo22 with ea_ en_ ec_;(first | subst ea_ | (injection ea_ with ea_;subst ea_));subst ec_;clear en_))
              have GB22:=Aside0.mk gb22
              have GG22:=Aside0.mk HG22
              clear gb22 gl22 HG22
              (first | simp only [add_plain] at hx543_0 | skip)
              obtain ⟨hx22_0,hf22_0⟩:=Kd.R_celln 0 HO_10.out (x32_2:Int) p22 q22
              replace p22:=eq_true p22
              replace q22:=eq_true q22
              have HP25:=Kd.R_putn HO_10.out (x32_2:Int) t545
              rw [← Ny546.out] at HP25
              have HQ25:=Aside0.mk HP25
              clear HP25
              refine hK.out _ _ ⟨((HB.out.cell (World.block_lt_of_cell? w _ hw541_0)).trans hw541_0),((HB.out.cell (World.block_lt_of_cell? w _ hw542_0)).trans hw542_0),hHeld.2.2⟩ (fun hHeld => ?_)
              clear hK K
              refine norm_ (a':=?_) ?_ ?_
              rotate_left
              ·
               show Act.put _ (some 51) _ = _
               simp only [Act.put,List.setIfInBounds_toArray,List.set_cons_zero,List.set_cons_succ,i64_w,i32_w]
               rfl
              refine pure_ (i:=16) (N:=some 35) (v:=?_) (a':=?_) #[true,true,true,true,true,true,true,true,true,true,true,true,true,true,true,true,true,false,false,false,false,false] rfl rfl (any_of HT_.out (by kernel_rfl)) (fun _ _ _ h => h) (Or.inl ⟨by rfl,?_⟩) ?_ ?_
              rotate_left
              ·
               exact vQ
              rotate_left
              ·
               exact vP
              refine pure_ (i:=17) (N:=some 52) (v:=?_) (a':=?_) #[true,true,true,true,true,true,true,true,true,true,true,true,true,true,true,true,true,true,false,false,false,false] rfl rfl (any_of HT_.out (by kernel_rfl)) (fun _ _ _ h => h) (Or.inl ⟨by rfl,?_⟩) ?_ ?_
              rotate_left
              ·
               exact vQ
              rotate_left
              ·
               exact vP
              refine pure_ (i:=18) (N:=some 53) (v:=?_) (a':=?_) #[true,true,true,true,true,true,true,true,true,true,true,true,true,true,true,true,true,true,true,false,false,false] rfl rfl (any_of HT_.out (by kernel_rfl)) (fun _ _ _ h => h) (Or.inl ⟨by rfl,?_⟩) ?_ ?_
              rotate_left
              ·
               exact vQ
              rotate_left
              ·
               exact vP
              refine pure_ (i:=19) (N:=some 12) (v:=?_) (a':=?_) #[true,true,true,true,true,true,true,true,true,true,true,true,true,true,true,true,true,true,true,true,false,false] rfl rfl (any_of HT_.out (by kernel_rfl)) (fun _ _ _ h => h) (Or.inl ⟨by rfl,?_⟩) ?_ ?_
              rotate_left
              ·
               exact vQ
              rotate_left
              ·
               exact vP
              refine pure_ (i:=20) (N:=some 54) (v:=?_) (a':=?_) #[true,true,true,true,true,true,true,true,true,true,true,true,true,true,true,true,true,true,true,true,true,false] rfl rfl (any_of HT_.out (by kernel_rfl)) (fun _ _ _ h => h) (Or.inl ⟨by rfl,?_⟩) ?_ ?_
              rotate_left
              ·
               exact vQ
              rotate_left
              ·
               exact vP
              refine last_ (i:=21) (N:=none) #[true,true,true,true,true,true,true,true,true,true,true,true,true,true,true,true,true,true,true,true,true,true] rfl rfl (one_of HT_.out (by kernel_rfl)) (by decide) (fun K hK => ?_)
              refine skip_ (w1:=?_) (by rfl) rfl ?_ ?_
              rotate_left
              ·
               go_simp
               rfl
              refine hK.out _ _ ?_
              clear hK K
              refine done_ (done_of HT_.out (by kernel_rfl)) ?_
              try go_wp2
              go_roundg k2
              case measure => have:=HK1.out;have:=HK2.out;omega
              case rel => exact ⟨(y546),(t544),(wrap64 (x32_2 + 1)),(by first | rfl | (simp;done) | (simp [*];done)),(by first | rfl | (simp;done) | (simp [*];done)),H',⟨by have:=HK1.out;have:=HK2.out;omega⟩,⟨by (with_reducible repeat (first | apply Kd.R_alloc | apply Kd.R_drewN | apply Kd.R_drew));exact HQ25.out⟩,⟨by (with_reducible repeat (first | refine blk_drewN ?_ _ | refine blk_drew ?_ | refine blk_alloc ?_ _));refine blk_far ?_ (by have h_:=Kd.R_ne HO_10.out BK521.out (by decide);intro e_;exact h_ (by rw [e_];rfl)) _;(with_reducible repeat (first | refine blk_drewN ?_ _ | refine blk_drew ?_ | refine blk_alloc ?_ _));exact BK521.out⟩,⟨by repeat (first | (with_reducible first | exact HB.out | apply below_alloc | apply pw_below_drewN | apply below_drew1 | refine below_set ?_ GB22.out | refine below_set ?_ GE521.out) | exact HB.out)⟩⟩
             ·
              rw [if_neg c20] at H
              exact absurd H (by simp)
            ·
             rw [if_neg c19] at H
             exact absurd H (by simp)
           ·
            rw [if_neg c18] at H
            exact absurd H (by simp)
          ·
           rw [if_neg c17] at H
           exact absurd H (by simp)
         ·
          rw [if_neg c16] at H
          exact absurd H (by simp)
        ·
         rw [if_neg c15] at H
         have c15b0:decide (x32_2 < (l1_0.length:Int)) = false:=decide_eq_false c15
         clear c15
         by_cases c26:0≤(l1_0.length:Int)
         ·
          rw [if_pos c26] at H
          have c26b0:decide (0≤(l1_0.length:Int)) = true:=decide_eq_true c26
          have c26b1:decide (0≤l1_0.length) = true:=decide_eq_true (by omega)
          clear c26
          by_cases c27:(l1_0.length:Int) < (x10_2.length:Int)
          ·
           rw [if_pos c27] at H
           have c27b0:decide ((l1_0.length:Int) < (x10_2.length:Int)) = true:=decide_eq_true c27
           have c27b1:decide (l1_0.length < x10_2.length) = true:=decide_eq_true (Int.ofNat_lt.mp c27)
           clear c27
           replace H:=Option.bind_eq_some_iff.mp H
           obtain ⟨⟨t548,t549⟩,A280,H⟩:=H
           replace H:(if 0≤(wrap64 ((l1_0.length:Int) + 1)) then (if (wrap64 ((l1_0.length:Int) + 1)) < (x10_2.length:Int) then ((some ((x10_2.set ((l1_0.length:Int):Int).toNat t548).set ((wrap64 ((l1_0.length:Int) + 1)):Int).toNat t549:List Int)).bind fun y551 => (if 0 < (x10_2.length:Int) then (if 0 < (l1_0.length:Int) then ((word_Mul.f (IntKind.u64.wrap ((rd y551 0) * a1_1)) (rd l1_0 0) (rd y551 0) 0).bind fun bt555 => (mont_Product.l2 k2 l2 l3 (l1_0.length:Int) y551 bt555.1 (IntKind.u64.wrap ((rd y551 0) * a1_1)) 1 (l1_0.length:Int) x25_1 l1_0 a1_1 l1_2)) else (none)) else (none))) else (none)) else (none)) = some r:=H
           have A28:=Aside0.mk A280
           clear A280
           obtain ⟨y550,hy550⟩:∃ y_:List Int,y_ = (x10_2.set ((l1_0.length:Int):Int).toNat t548):=⟨_,rfl⟩
           replace H:(if 0≤(wrap64 ((l1_0.length:Int) + 1)) then (if (wrap64 ((l1_0.length:Int) + 1)) < (x10_2.length:Int) then ((some (y550.set ((wrap64 ((l1_0.length:Int) + 1)):Int).toNat t549:List Int)).bind fun y551 => (if 0 < (x10_2.length:Int) then (if 0 < (l1_0.length:Int) then ((word_Mul.f (IntKind.u64.wrap ((rd y551 0) * a1_1)) (rd l1_0 0) (rd y551 0) 0).bind fun bt555 => (mont_Product.l2 k2 l2 l3 (l1_0.length:Int) y551 bt555.1 (IntKind.u64.wrap ((rd y551 0) * a1_1)) 1 (l1_0.length:Int) x25_1 l1_0 a1_1 l1_2)) else (none)) else (none))) else (none)) else (none)) = some r:=by first | (rw [hy550];with_reducible exact H) | (have H2_:=(Option.bind_some _ _).symm.trans H;rw [hy550];with_reducible exact H2_) | (have H2_:=(Option.bind_some _ _).symm.trans H;with_reducible exact H2_) | with_reducible exact H | (rw [hy550];exact H) | exact H
           have Ny550:=Aside0.mk hy550
           clear hy550
           obtain ⟨ji30,hji30⟩:∃ j_:Int,(wrap64 ((l1_0.length:Int) + 1)) = j_:=⟨_,rfl⟩
           replace H:(if 0≤(ji30) then (if (ji30) < (x10_2.length:Int) then ((some (y550.set ((ji30):Int).toNat t549:List Int)).bind fun y551 => (if 0 < (x10_2.length:Int) then (if 0 < (l1_0.length:Int) then ((word_Mul.f (IntKind.u64.wrap ((rd y551 0) * a1_1)) (rd l1_0 0) (rd y551 0) 0).bind fun bt555 => (mont_Product.l2 k2 l2 l3 (l1_0.length:Int) y551 bt555.1 (IntKind.u64.wrap ((rd y551 0) * a1_1)) 1 (l1_0.length:Int) x25_1 l1_0 a1_1 l1_2)) else (none)) else (none))) else (none)) else (none)) = some r:=by first | (rw [hji30] at H;exact H) | (simp only [hji30] at H ⊢;exact H)
           (try rw [hji30] at A28)
           have hji30w:(IntKind.i64.wrap ((l1_0.length:Int) + 1)) = ji30:=(i64_w _).trans hji30
           by_cases c31:0≤(ji30)
           ·
            rw [if_pos c31] at H
            have c31b0:decide (0≤(ji30)) = true:=decide_eq_true c31
            clear c31
            by_cases c32:(ji30) < (x10_2.length:Int)
            ·
             rw [if_pos c32] at H
             have c32b0:decide ((ji30) < (x10_2.length:Int)) = true:=decide_eq_true c32
             clear c32
             obtain ⟨y551,hy551⟩:∃ y_:List Int,y_ = (y550.set ((ji30):Int).toNat t549):=⟨_,rfl⟩
             replace H:(if 0 < (x10_2.length:Int) then (if 0 < (l1_0.length:Int) then ((word_Mul.f (IntKind.u64.wrap ((rd y551 0) * a1_1)) (rd l1_0 0) (rd y551 0) 0).bind fun bt555 => (mont_Product.l2 k2 l2 l3 (l1_0.length:Int) y551 bt555.1 (IntKind.u64.wrap ((rd y551 0) * a1_1)) 1 (l1_0.length:Int) x25_1 l1_0 a1_1 l1_2)) else (none)) else (none)) = some r:=by first | (rw [hy551];with_reducible exact H) | (have H2_:=(Option.bind_some _ _).symm.trans H;rw [hy551];with_reducible exact H2_) | (have H2_:=(Option.bind_some _ _).symm.trans H;with_reducible exact H2_) | with_reducible exact H | (rw [hy551];exact H) | exact H
             have Ny551:=Aside0.mk hy551
             clear hy551
             by_cases c34:0 < (x10_2.length:Int)
             ·
              rw [if_pos c34] at H
              have c34b0:decide (0 < (x10_2.length:Int)) = true:=decide_eq_true c34
              have c34b1:decide (0 < x10_2.length) = true:=decide_eq_true (by omega)
              clear c34
              by_cases c35:0 < (l1_0.length:Int)
              ·
               rw [if_pos c35] at H
               have c35b0:decide (0 < (l1_0.length:Int)) = true:=decide_eq_true c35
               have c35b1:decide (0 < l1_0.length) = true:=decide_eq_true (by omega)
               clear c35
               replace H:=Option.bind_eq_some_iff.mp H
               obtain ⟨⟨t555,t556⟩,A360,H⟩:=H
               replace H:(mont_Product.l2 k2 l2 l3 (l1_0.length:Int) y551 t555 (IntKind.u64.wrap ((rd y551 0) * a1_1)) 1 (l1_0.length:Int) x25_1 l1_0 a1_1 l1_2) = some r:=H
               have A36:=Aside0.mk A360
               clear A360
               have H':=Aside0.mk H
               clear H
               obtain ⟨Ao37,co37,eo37⟩:=Kd.R_slice HO_10.out
               subst eo37
               have p547:0≤((l1_0.length:Int):Int):=of_decide_eq_true vD
               have q547:(l1_0.length:Int) < (x10_2.length:Int):=of_decide_eq_true vD
               obtain ⟨ad547,e547,hx547_0⟩:=Kd.at_int (Kd.R_reads' HO_10.out).2.2 (l1_0.length:Int) p547 q547
               cases e547
               (try simp only [Go.IntWalk.toNatUp] at hx547_0)
               replace p547:=eq_true p547
               replace q547:=eq_true q547
               try go_wp2_with (first | ((with_reducible refine gate_callee (f:=144) rfl ?_);refine goesL_ (some 64) rfl rfl Try.func144 (by kernel_rfl) rfl #[.int .u64 (rd x10_2 (l1_0.length:Int)),.int .u64 x12_2,.int .u64 0] rfl vA ?_;(with_reducible refine (word_Add.calls (rd x10_2 (l1_0.length:Int)) x12_2 0 t548 t549 _ A28.out).mono ?_);rintro e w' ⟨rfl,⟨nd,rfl⟩⟩;refine ⟨_,rfl,?_⟩;(try (rw [drewN_self wr];generalize hq_:World.drewN wr _ = wr;have n0_:Aside0 (Kd.R (Kd.int .u64) 24 wr w.heap.size (fun _ => True) (.slice (some ad547) x10_2.length co37) x10_2):=⟨by rw [← hq_];exact (vR HO_10.out)⟩;have n1_:Aside0 (wr.heap[gb521]? = some (.cells #[.slice A1_0 l1_0.length c1_0,.int .u64 a1_1,.slice A1_2 l1_2.length c1_2] 26 (0,0))):=⟨by rw [← hq_];exact (vK BK521.out)⟩;have n2_:Aside0 (Below w.heap.size w wr):=⟨by rw [← hq_];exact (vBg HB.out GE521.out)⟩;clear HO_10 BK521 HB hq_;have HO_10:=n0_;have BK521:=n1_;have HB:=n2_;clear n0_ n1_ n2_));have p29:0≤((l1_0.length:Int):Int):=of_decide_eq_true vD;have q29:((l1_0.length:Int):Int) < ((x10_2.length:Int):Int):=of_decide_eq_true vD;obtain ⟨go29,co29,eo29,gb29,gl29,cl29,HG29⟩:=Kd.R_form HO_10.out (by omega);(first | cases eo29 | (injection eo29 with ea_ en_ ec_;(first | subst ea_ | (injection ea_ with ea_;subst ea_));subst ec_;clear en_));have GB29:=Aside0.mk gb29;have GG29:=Aside0.mk HG29;clear gb29 gl29 HG29;(first | simp only [add_plain] at hx547_0 | skip);obtain ⟨hx29_0,hf29_0⟩:=Kd.R_celln 0 HO_10.out ((l1_0.length:Int):Int) p29 q29;replace p29:=eq_true p29;replace q29:=eq_true q29;obtain ⟨hy38_,hz38_⟩:=Kd.R_celln 0 HO_10.out ((l1_0.length:Int):Int) (of_decide_eq_true vD) (of_decide_eq_true vD);(try simp only [Go.IntWalk.toNatUp] at hy38_ hz38_);have HP38:=Kd.R_putg HO_10.out ((l1_0.length:Int):Int) t548) | ((with_reducible refine gate_store (t:=24) (p:=67) rfl ?_);refine store_event (t:=24) (p:=67) (v:=?vo_w39) (w1:=(wr.setCell ⟨go29,((l1_0.length:Int):Int).toNat,none⟩ (.int .u64 t548))) ?hg ?ho ?hn ?hr ?_;(case ho => rfl);(case hg => rfl);(case hn => rfl);(case hr => first | (go_simp;done) | (go_simp;rfl));intro w39 hw;have hg:wr.grownBy w39 (some go29):=(by rw [hw];exact HP38.2);have hp_:Kd.R (Kd.int .u64) 24 w39 w.heap.size (fun _ => True) (.slice (some ⟨go29,0,none⟩) x10_2.length co37) y550:=(by rw [hw,Ny550.out];exact HP38.1);clear HP38;have n0_:=Aside0.mk (hp_);have n1_:=Aside0.mk (blk_grown (g:=gb521) (o:=.cells #[.slice A1_0 l1_0.length c1_0,.int .u64 a1_1,.slice A1_2 l1_2.length c1_2] 26 (0,0)) (vK BK521.out) hg (Kd.R_ne HO_10.out BK521.out (by decide)));have n2_:=Aside0.mk ((by rw [hw];exact below_set (HB.out) GB29.out:Below w.heap.size w w39));clear HO_10;clear BK521;clear HB;have HO_10:=n0_;have BK521:=n1_;have HB:=n2_;clear n0_ n1_ n2_;clear hg hw hp_;have p33:0≤((ji30):Int):=of_decide_eq_true vD;have q33:((ji30):Int) < ((x10_2.length:Int):Int):=of_decide_eq_true vD;obtain ⟨hx33_0,hf33_0⟩:=Kd.R_celln 0 HO_10.out ((ji30):Int) p33 q33;replace p33:=eq_true p33;replace q33:=eq_true q33;obtain ⟨hy40_,hz40_⟩:=Kd.R_celln 0 HO_10.out ((ji30):Int) (of_decide_eq_true vD) (of_decide_eq_true vD);have HP40:=Kd.R_putg HO_10.out ((ji30):Int) t549) | ((with_reducible refine gate_store (t:=24) (p:=72) rfl ?_);refine store_event (t:=24) (p:=72) (v:=?vo_w41) (w1:=(w39.setCell ⟨go29,((ji30):Int).toNat,none⟩ (.int .u64 t549))) ?hg ?ho ?hn ?hr ?_;(case ho => rfl);(case hg => rfl);(case hn => rfl);(case hr => first | (go_simp;done) | (go_simp;rfl));intro w41 hw;have hg:w39.grownBy w41 (some go29):=(by rw [hw];exact HP40.2);have hp_:Kd.R (Kd.int .u64) 24 w41 w.heap.size (fun _ => True) (.slice (some ⟨go29,0,none⟩) x10_2.length co37) y551:=(by rw [hw,Ny551.out];exact HP40.1);clear HP40;have n0_:=Aside0.mk (hp_);have n1_:=Aside0.mk (blk_grown (g:=gb521) (o:=.cells #[.slice A1_0 l1_0.length c1_0,.int .u64 a1_1,.slice A1_2 l1_2.length c1_2] 26 (0,0)) (vK BK521.out) hg (Kd.R_ne HO_10.out BK521.out (by decide)));have n2_:=Aside0.mk ((by rw [hw];exact below_set (HB.out) GB29.out:Below w.heap.size w w41));clear HO_10;clear BK521;clear HB;have HO_10:=n0_;have BK521:=n1_;have HB:=n2_;clear n0_ n1_ n2_;clear hg hw hp_))
               have n0_:=Aside0.mk (Kd.R_drew HO_10.out)
               have n1_:=Aside0.mk (blk_drew BK521.out)
               have n2_:=Aside0.mk (below_drew1 HB.out)
               clear HO_10
               clear BK521
               clear HB
               have HO_10:=n0_
               have BK521:=n1_
               have HB:=n2_
               clear n0_ n1_ n2_
               have p552:0≤(0:Int):=(by omega)
               have q552:0 < (y551.length:Int):=(by have h_:(0:Int) < ((x10_2.length:Int):Int):=of_decide_eq_true vD;first | (have e_:=(Kd.R_reads' HO_10.out).1;omega) | simpa only [Ny550.out,Ny551.out,List.length_set] using h_)
               have ql552:((0:Int) < ((x10_2.length:Int):Int)) = True:=eq_true (of_decide_eq_true vD)
               (try have qn552:(0 < x10_2.length) = True:=eq_true (by have h_:(0:Int) < ((x10_2.length:Int):Int):=of_decide_eq_true vD;omega))
               obtain ⟨ad552,e552,hx552_0⟩:=Kd.at_int (Kd.R_reads' HO_10.out).2.2 0 p552 q552
               obtain rfl:(⟨go29,0,none⟩:Addr) = ad552:=(by injection e552)
               (first | simp only [add_plain] at hx552_0 | simp only [add_at] at hx552_0 | simp only [Addr.add,Nat.zero_add] at hx552_0 | skip)
               have qi552:(0 < y551.length) = True:=eq_true (by omega)
               (try rw [show ((0:Int)).toNat = 0 from rfl] at hx552_0)
               (try rw [Addr.add_zero'] at hx552_0)
               replace p552:=eq_true p552
               replace q552:=eq_true q552
               refine start_ (n:=7) (S:=fun w' => w'.cell? ⟨gb521,0,none⟩ = some (.slice A1_0 l1_0.length c1_0)∧w'.cell? ⟨gb521,1,none⟩ = some (.int .u64 a1_1)∧w'.cell? ⟨gb521,2,none⟩ = some (.slice A1_2 l1_2.length c1_2)∧w'.cell? ⟨go29,0,none⟩ = some (.int .u64 (rd y551 0))) (ds:=[]) #[false,false,false,false,false,false,false] (by kernel_rfl) rfl rfl ⟨(blk_cell BK521.out 0).trans rfl,(blk_cell BK521.out 1).trans rfl,(blk_cell BK521.out 2).trans rfl,hx552_0⟩ (fun hHeld => ?_)
               generalize w41.drew = w42 at HO_10 BK521 HB hx552_0 hHeld ⊢
               refine pure_ (i:=0) (N:=some 73) (v:=?_) (a':=?_) #[true,false,false,false,false,false,false] rfl rfl (by kernel_rfl) (fun _ _ _ h => h) (Or.inl ⟨by rfl,?_⟩) ?_ ?_
               rotate_left
               ·
                exact vQ
               rotate_left
               ·
                exact vP
               refine pure_ (i:=1) (N:=some 74) (v:=?_) (a':=?_) #[true,true,false,false,false,false,false] rfl rfl (by kernel_rfl) (fun _ _ _ h => h) (Or.inl ⟨by rfl,?_⟩) ?_ ?_
               rotate_left
               ·
                exact vQ
               rotate_left
               ·
                exact vP
               refine pure_ (i:=3) (N:=some 76) (v:=?_) (a':=?_) #[true,true,false,true,false,false,false] rfl rfl (by kernel_rfl) (fun _ _ _ h => h) (Or.inl ⟨by rfl,?_⟩) ?_ ?_
               rotate_left
               ·
                exact vQ
               rotate_left
               ·
                exact vP
               refine take_ (i:=2) (N:=some 75) (v:=?_) (a':=?_) #[true,true,true,true,false,false,false] rfl rfl (by kernel_rfl) (fun _ _ _ h => h) (Or.inl ⟨by rfl,?_⟩) hHeld ?_ ?_
               rotate_left
               ·
                rintro w' ⟨s0,s1,s2,s3⟩
                go_simp
                with_reducible rfl
               rotate_left
               ·
                exact vP
               refine take_ (i:=4) (N:=some 77) (v:=?_) (a':=?_) #[true,true,true,true,true,false,false] rfl rfl (by kernel_rfl) (fun _ _ _ h => h) (Or.inl ⟨by rfl,?_⟩) hHeld ?_ ?_
               rotate_left
               ·
                rintro w' ⟨s0,s1,s2,s3⟩
                go_simp
                with_reducible rfl
               rotate_left
               ·
                exact vP
               refine pure_ (i:=5) (N:=some 78) (v:=?_) (a':=?_) #[true,true,true,true,true,true,false] rfl rfl (by kernel_rfl) (fun _ _ _ h => h) (Or.inl ⟨by rfl,?_⟩) ?_ ?_
               rotate_left
               ·
                exact vQ
               rotate_left
               ·
                exact vP
               refine pure_ (i:=6) (N:=some 14) (v:=?_) (a':=?_) #[true,true,true,true,true,true,true] rfl rfl (by kernel_rfl) (fun _ _ _ h => h) (Or.inl ⟨by rfl,?_⟩) ?_ ?_
               rotate_left
               ·
                exact vQ
               rotate_left
               ·
                exact vP
               refine done_ (by kernel_rfl) ?_
               try go_wp2
               have n0_:=Aside0.mk (Kd.R_drew HO_10.out)
               have n1_:=Aside0.mk (blk_drew BK521.out)
               have n2_:=Aside0.mk (below_drew1 HB.out)
               clear HO_10
               clear BK521
               clear HB
               have HO_10:=n0_
               have BK521:=n1_
               have HB:=n2_
               clear n0_ n1_ n2_
               have p553:0≤(0:Int):=(by omega)
               have q553:0 < (l1_0.length:Int):=of_decide_eq_true vD
               obtain ⟨ad553,e553,hx553_0⟩:=Kd.at_int HR1_0.out 0 p553 q553
               have hw553_0:=hx553_0
               (try rw [show ((0:Int)).toNat = 0 from rfl] at hw553_0)
               (try rw [show 0 * 1 = 0 from rfl] at hw553_0)
               (try rw [Addr.add_zero'] at hw553_0)
               cases e553
               have qi553:(0 < l1_0.length) = True:=eq_true (by omega)
               (try rw [show ((0:Int)).toNat = 0 from rfl] at hx553_0)
               (try rw [Addr.add_zero'] at hx553_0)
               replace hx553_0:=(HB.out.cell (World.block_lt_of_cell? w _ hx553_0)).trans hx553_0
               replace p553:=eq_true p553
               replace q553:=eq_true q553
               have p554:0≤(0:Int):=(by omega)
               have q554:0 < (y551.length:Int):=(by have h_:(0:Int) < ((x10_2.length:Int):Int):=of_decide_eq_true vD;first | (have e_:=(Kd.R_reads' HO_10.out).1;omega) | simpa only [Ny550.out,Ny551.out,List.length_set] using h_)
               have ql554:((0:Int) < ((x10_2.length:Int):Int)) = True:=eq_true (of_decide_eq_true vD)
               (try have qn554:(0 < x10_2.length) = True:=eq_true (by have h_:(0:Int) < ((x10_2.length:Int):Int):=of_decide_eq_true vD;omega))
               obtain ⟨ad554,e554,hx554_0⟩:=Kd.at_int (Kd.R_reads' HO_10.out).2.2 0 p554 q554
               obtain rfl:(⟨go29,0,none⟩:Addr) = ad554:=(by injection e554)
               (first | simp only [add_plain] at hx554_0 | simp only [add_at] at hx554_0 | simp only [Addr.add,Nat.zero_add] at hx554_0 | skip)
               have qi554:(0 < y551.length) = True:=eq_true (by omega)
               (try rw [show ((0:Int)).toNat = 0 from rfl] at hx554_0)
               (try rw [Addr.add_zero'] at hx554_0)
               replace p554:=eq_true p554
               replace q554:=eq_true q554
               refine start_ (n:=13) (S:=fun w' => w'.cell? ⟨gb521,0,none⟩ = some (.slice (some ad553) l1_0.length c1_0)∧w'.cell? ⟨gb521,1,none⟩ = some (.int .u64 a1_1)∧w'.cell? ⟨gb521,2,none⟩ = some (.slice A1_2 l1_2.length c1_2)∧w'.cell? ad553 = some (.int .u64 (rd l1_0 0))∧w'.cell? ⟨go29,0,none⟩ = some (.int .u64 (rd y551 0))) (ds:=[]) #[false,false,false,false,false,false,false,false,false,false,false,false,false] (by kernel_rfl) rfl rfl ⟨(blk_cell BK521.out 0).trans rfl,(blk_cell BK521.out 1).trans rfl,(blk_cell BK521.out 2).trans rfl,((HB.out.cell (World.block_lt_of_cell? w _ hw553_0)).trans hw553_0),hx554_0⟩ (fun hHeld => ?_);refine with_tabW mont_Product.tab16 mont_Product.bits16 (fun HT_ HW_ => ?_)
               generalize w42.drew = w43 at HO_10 BK521 HB hx553_0 hx554_0 hHeld ⊢
               refine pure_ (i:=0) (N:=some 80) (v:=?_) (a':=?_) #[true,false,false,false,false,false,false,false,false,false,false,false,false] rfl rfl (any_of HT_.out (by kernel_rfl)) (fun _ _ _ h => h) (Or.inl ⟨by rfl,?_⟩) ?_ ?_
               rotate_left
               ·
                exact vQ
               rotate_left
               ·
                exact vP
               refine pure_ (i:=1) (N:=some 81) (v:=?_) (a':=?_) #[true,true,false,false,false,false,false,false,false,false,false,false,false] rfl rfl (any_of HT_.out (by kernel_rfl)) (fun _ _ _ h => h) (Or.inl ⟨by rfl,?_⟩) ?_ ?_
               rotate_left
               ·
                exact vQ
               rotate_left
               ·
                exact vP
               refine pure_ (i:=5) (N:=some 85) (v:=?_) (a':=?_) #[true,true,false,false,false,true,false,false,false,false,false,false,false] rfl rfl (any_of HT_.out (by kernel_rfl)) (fun _ _ _ h => h) (Or.inl ⟨by rfl,?_⟩) ?_ ?_
               rotate_left
               ·
                exact vQ
               rotate_left
               ·
                exact vP
               refine pure_ (i:=6) (N:=some 86) (v:=?_) (a':=?_) #[true,true,false,false,false,true,true,false,false,false,false,false,false] rfl rfl (any_of HT_.out (by kernel_rfl)) (fun _ _ _ h => h) (Or.inl ⟨by rfl,?_⟩) ?_ ?_
               rotate_left
               ·
                exact vQ
               rotate_left
               ·
                exact vP
               refine take_ (i:=2) (N:=some 82) (v:=?_) (a':=?_) #[true,true,true,false,false,true,true,false,false,false,false,false,false] rfl rfl (take_ofW HT_.out HW_.out (by kernel_rfl)) (fun _ _ _ h => h) (Or.inl ⟨by rfl,?_⟩) hHeld ?_ ?_
               rotate_left
               ·
                rintro w' ⟨s0,s1,s2,s3,s4⟩
                go_simp
                with_reducible rfl
               rotate_left
               ·
                exact vP
               refine pure_ (i:=3) (N:=some 83) (v:=?_) (a':=?_) #[true,true,true,true,false,true,true,false,false,false,false,false,false] rfl rfl (any_of HT_.out (by kernel_rfl)) (fun _ _ _ h => h) (Or.inl ⟨by rfl,?_⟩) ?_ ?_
               rotate_left
               ·
                exact vQ
               rotate_left
               ·
                exact vP
               refine take_ (i:=4) (N:=some 84) (v:=?_) (a':=?_) #[true,true,true,true,true,true,true,false,false,false,false,false,false] rfl rfl (take_ofW HT_.out HW_.out (by kernel_rfl)) (fun _ _ _ h => h) (Or.inl ⟨by rfl,?_⟩) hHeld ?_ ?_
               rotate_left
               ·
                rintro w' ⟨s0,s1,s2,s3,s4⟩
                go_simp
                with_reducible rfl
               rotate_left
               ·
                exact vP
               refine take_ (i:=7) (N:=some 87) (v:=?_) (a':=?_) #[true,true,true,true,true,true,true,true,false,false,false,false,false] rfl rfl (take_ofW HT_.out HW_.out (by kernel_rfl)) (fun _ _ _ h => h) (Or.inl ⟨by rfl,?_⟩) hHeld ?_ ?_
               rotate_left
               ·
                rintro w' ⟨s0,s1,s2,s3,s4⟩
                go_simp
                with_reducible rfl
               rotate_left
               ·
                exact vP
               refine one_ (i:=8) (N:=some 88) #[true,true,true,true,true,true,true,true,true,false,false,false,false] rfl rfl (one_of HT_.out (by kernel_rfl)) (by decide) (fun K hK => ?_)
               refine goes_ Try.func149 (by kernel_rfl) rfl #[.int .u64 (IntKind.u64.wrap ((rd y551 0) * a1_1)),.int .u64 (rd l1_0 0),.int .u64 (rd y551 0),.int .u64 0] (by rfl) rfl rfl vA ?_
               with_reducible refine (word_Mul.calls (IntKind.u64.wrap ((rd y551 0) * a1_1)) (rd l1_0 0) (rd y551 0) 0 t555 t556 _ A36.out).mono ?_
               rintro e w' ⟨rfl,⟨nd,rfl⟩⟩
               refine ⟨_,rfl,?_⟩
               refine hK.out _ _ ⟨(blk_cell BK521.out 0).trans rfl,(blk_cell BK521.out 1).trans rfl,(blk_cell BK521.out 2).trans rfl,((HB.out.cell (World.block_lt_of_cell? w _ hw553_0)).trans hw553_0),hHeld.2.2.2.2⟩ (fun hHeld => ?_)
               clear hK K
               refine norm_ (a':=?_) ?_ ?_
               rotate_left
               ·
                show Act.put _ (some 88) _ = _
                simp only [Act.put,List.setIfInBounds_toArray,List.set_cons_zero,List.set_cons_succ,i64_w,i32_w]
                rfl
               refine pure_ (i:=9) (N:=some 79) (v:=?_) (a':=?_) #[true,true,true,true,true,true,true,true,true,true,false,false,false] rfl rfl (any_of HT_.out (by kernel_rfl)) (fun _ _ _ h => h) (Or.inl ⟨by rfl,?_⟩) ?_ ?_
               rotate_left
               ·
                exact vQ
               rotate_left
               ·
                exact vP
               refine pure_ (i:=10) (N:=some 89) (v:=?_) (a':=?_) #[true,true,true,true,true,true,true,true,true,true,true,false,false] rfl rfl (any_of HT_.out (by kernel_rfl)) (fun _ _ _ h => h) (Or.inl ⟨by rfl,?_⟩) ?_ ?_
               rotate_left
               ·
                exact vQ
               rotate_left
               ·
                exact vP
               refine pure_ (i:=11) (N:=some 90) (v:=?_) (a':=?_) #[true,true,true,true,true,true,true,true,true,true,true,true,false] rfl rfl (any_of HT_.out (by kernel_rfl)) (fun _ _ _ h => h) (Or.inl ⟨by rfl,?_⟩) ?_ ?_
               rotate_left
               ·
                exact vQ
               rotate_left
               ·
                exact vP
               refine pure_ (i:=12) (N:=some 12) (v:=?_) (a':=?_) #[true,true,true,true,true,true,true,true,true,true,true,true,true] rfl rfl (any_of HT_.out (by kernel_rfl)) (fun _ _ _ h => h) (Or.inl ⟨by rfl,?_⟩) ?_ ?_
               rotate_left
               ·
                exact vQ
               rotate_left
               ·
                exact vP
               refine done_ (done_of HT_.out (by kernel_rfl)) ?_
               try go_wp2
               go_loopg [12,15] k2 (fun kq v12 v15 w' => ∃ (x10_3:List Int) (x12_3:Int) (x15_3:Int),v12 = .int .u64 x12_3∧v15 = .int .i64 x15_3∧Aside0 (mont_Product.l2 kq l2 l3 (l1_0.length:Int) x10_3 x12_3 (IntKind.u64.wrap ((rd y551 0) * a1_1)) x15_3 (l1_0.length:Int) x25_1 l1_0 a1_1 l1_2 = some r)∧Aside0 (kq≤k2)∧Aside0 (Kd.R (Kd.int .u64) 24 w' w.heap.size (fun _ => True) (.slice (some ⟨go29,0,none⟩) x10_2.length co37) x10_3)∧Aside0 (w'.heap[gb521]? = some (.cells #[(.slice (some ad553) l1_0.length c1_0),.int .u64 a1_1,(.slice A1_2 l1_2.length c1_2)] 26 (0,0)))∧Aside0 (Below w.heap.size w w'))
               case atStart => exact ⟨(y551),(t555),(1),(by first | rfl | (simp;done) | (simp [*];done)),(by first | rfl | (simp;done) | (simp [*];done)),H',⟨Nat.le_refl _⟩,⟨by (with_reducible repeat (first | apply Kd.R_alloc | apply Kd.R_drewN | apply Kd.R_drew));exact HO_10.out⟩,⟨by (with_reducible repeat (first | refine blk_drewN ?_ _ | refine blk_drew ?_ | refine blk_alloc ?_ _));exact BK521.out⟩,⟨by repeat (first | (with_reducible first | exact HB.out | apply below_alloc | apply pw_below_drewN | apply below_drew1 | refine below_set ?_ GE521.out) | exact HB.out)⟩⟩
               case round =>
                clear H'
                try clear c1
                try clear c2
                try clear p2
                try clear q2
                try clear hx2
                try clear c3
                try clear p3
                try clear q3
                try clear hx3
                try clear p5
                try clear q5
                try clear hx5
                try clear qi5
                try clear p6
                try clear c7
                try clear c7b1
                try clear c10
                try clear c12
                try clear c12b0
                try clear c14
                try clear c15
                try clear c15b0
                try clear c16
                try clear c16b0
                try clear c17
                try clear c17b0
                try clear c18
                try clear c18b0
                try clear c19
                try clear c19b0
                try clear c20
                try clear c20b0
                try clear p22
                try clear q22
                try clear hx22
                try clear hf22
                try clear c26
                try clear c26b0
                try clear c26b1
                try clear c27
                try clear c27b0
                try clear c27b1
                try clear p29
                try clear q29
                try clear hx29
                try clear hf29
                try clear c31
                try clear c31b0
                try clear c32
                try clear c32b0
                try clear p33
                try clear q33
                try clear hx33
                try clear hf33
                try clear c34
                try clear c34b0
                try clear c34b1
                try clear c35
                try clear c35b0
                try clear c35b1
                try clear hcz9_0
                try clear hcz9_1
                try clear hcz9_2
                try clear hfz9_0
                try clear hfz9_1
                try clear hfz9_2
                try clear hx22_0
                try clear hx29_0
                try clear hx33_0
                try clear hx541_0
                try clear hx542_0
                try clear hx543_0
                try clear hx547_0
                try clear hx552_0
                try clear hx553_0
                try clear hx554_0
                try clear p2
                try clear p22
                try clear p29
                try clear p33
                try clear p541
                try clear p542
                try clear p543
                try clear p547
                try clear p552
                try clear p553
                try clear p554
                try clear p6
                try clear q22
                try clear q29
                try clear q33
                try clear q541
                try clear q542
                try clear q543
                try clear q547
                try clear q552
                try clear q553
                try clear q554
                obtain ⟨x10_3,x12_3,x15_3,rfl,rfl,HA,HK3,HO_10,BK521,HB⟩:=hrel
                have hl10_3:=(Kd.R_reads' HO_10.out).1
                rw [hl10_3] at HO_10
                (try simp only [hl10_3])
                (try simp only [hl10_3] at BK521)
                cases gk with
                | zero => exact absurd HA.out (by simp [mont_Product.l2])
                | succ k3 =>
                 have H:=HA.out
                 clear HA
                 simp only [mont_Product.l2] at H
                 by_cases c44:x15_3 < (l1_0.length:Int)
                 ·
                  rw [if_pos c44] at H
                  have c44b0:decide (x15_3 < (l1_0.length:Int)) = true:=decide_eq_true c44
                  (try (have c44b0L0:=c44b0;rw [hl10_3] at c44b0L0))
                  clear c44
                  by_cases c45:0≤x15_3
                  ·
                   rw [if_pos c45] at H
                   have c45b0:decide (0≤x15_3) = true:=decide_eq_true c45
                   clear c45
                   by_cases c46:x15_3 < (l1_0.length:Int)
                   ·
                    rw [if_pos c46] at H
                    have c46b0:decide (x15_3 < (l1_0.length:Int)) = true:=decide_eq_true c46
                    (try (have c46b0L0:=c46b0;rw [hl10_3] at c46b0L0))
                    clear c46
                    by_cases c47:x15_3 < (x10_3.length:Int)
                    ·
                     rw [if_pos c47] at H
                     have c47b0:decide (x15_3 < (x10_3.length:Int)) = true:=decide_eq_true c47
                     (try (have c47b0L0:=c47b0;rw [hl10_3] at c47b0L0))
                     clear c47
                     replace H:=Option.bind_eq_some_iff.mp H
                     obtain ⟨⟨t559,t560⟩,A480,H⟩:=H
                     replace H:(if 0≤(wrap64 (x15_3 - 1)) then (if (wrap64 (x15_3 - 1)) < (x10_3.length:Int) then (mont_Product.l2 k3 l2 l3 (l1_0.length:Int) (x10_3.set ((wrap64 (x15_3 - 1)):Int).toNat t560) t559 (IntKind.u64.wrap ((rd y551 0) * a1_1)) (wrap64 (x15_3 + 1)) (l1_0.length:Int) x25_1 l1_0 a1_1 l1_2) else (none)) else (none)) = some r:=H
                     have A48:=Aside0.mk A480
                     clear A480
                     obtain ⟨ji49,hji49⟩:∃ j_:Int,(wrap64 (x15_3 - 1)) = j_:=⟨_,rfl⟩
                     replace H:(if 0≤(ji49) then (if (ji49) < (x10_3.length:Int) then (mont_Product.l2 k3 l2 l3 (l1_0.length:Int) (x10_3.set ((ji49):Int).toNat t560) t559 (IntKind.u64.wrap ((rd y551 0) * a1_1)) (wrap64 (x15_3 + 1)) (l1_0.length:Int) x25_1 l1_0 a1_1 l1_2) else (none)) else (none)) = some r:=by first | (rw [hji49] at H;exact H) | (simp only [hji49] at H ⊢;exact H)
                     (try rw [hji49] at A48)
                     have hji49w:(IntKind.i64.wrap (x15_3 - 1)) = ji49:=(i64_w _).trans hji49
                     by_cases c50:0≤(ji49)
                     ·
                      rw [if_pos c50] at H
                      have c50b0:decide (0≤(ji49)) = true:=decide_eq_true c50
                      clear c50
                      by_cases c51:(ji49) < (x10_3.length:Int)
                      ·
                       rw [if_pos c51] at H
                       have c51b0:decide ((ji49) < (x10_3.length:Int)) = true:=decide_eq_true c51
                       (try (have c51b0L0:=c51b0;rw [hl10_3] at c51b0L0))
                       clear c51
                       obtain ⟨y561,hy561⟩:∃ y_:List Int,y_ = (x10_3.set ((ji49):Int).toNat t560):=⟨_,rfl⟩
                       replace H:(mont_Product.l2 k3 l2 l3 (l1_0.length:Int) y561 t559 (IntKind.u64.wrap ((rd y551 0) * a1_1)) (wrap64 (x15_3 + 1)) (l1_0.length:Int) x25_1 l1_0 a1_1 l1_2) = some r:=by first | (rw [hy561];with_reducible exact H) | (have H2_:=(Option.bind_some _ _).symm.trans H;rw [hy561];with_reducible exact H2_) | (have H2_:=(Option.bind_some _ _).symm.trans H;with_reducible exact H2_) | with_reducible exact H | (rw [hy561];exact H) | exact H
                       have Ny561:=Aside0.mk hy561
                       clear hy561
                       have H':=Aside0.mk H
                       clear H
                       try go_wp2
                       have n0_:=Aside0.mk (Kd.R_drew HO_10.out)
                       have n1_:=Aside0.mk (blk_drew BK521.out)
                       have n2_:=Aside0.mk (below_drew1 HB.out)
                       clear HO_10
                       clear BK521
                       clear HB
                       have HO_10:=n0_
                       have BK521:=n1_
                       have HB:=n2_
                       clear n0_ n1_ n2_
                       have p557:0≤(x15_3:Int):=of_decide_eq_true vD
                       have q557:x15_3 < (l1_0.length:Int):=of_decide_eq_true vD
                       obtain ⟨ad557,e557,hx557_0⟩:=Kd.at_int HR1_0.out x15_3 p557 q557
                       have hw557_0:=hx557_0
                       obtain rfl:ad553 = ad557:=(by injection e557)
                       replace hx557_0:=(HB.out.cell (World.block_lt_of_cell? w _ hx557_0)).trans hx557_0
                       replace p557:=eq_true p557
                       replace q557:=eq_true q557
                       have p558:0≤(x15_3:Int):=of_decide_eq_true vD
                       have q558:x15_3 < (x10_3.length:Int):=of_decide_eq_true vD
                       obtain ⟨ad558,e558,hx558_0⟩:=Kd.at_int (Kd.R_reads' HO_10.out).2.2 x15_3 p558 q558
                       obtain rfl:(⟨go29,0,none⟩:Addr) = ad558:=(by injection e558)
                       (first | simp only [add_plain] at hx558_0 | simp only [add_at] at hx558_0 | simp only [Addr.add,Nat.zero_add] at hx558_0 | skip)
                       replace p558:=eq_true p558
                       replace q558:=eq_true q558
                       refine start_ (n:=21) (S:=fun w' => w'.cell? ⟨gb521,0,none⟩ = some (.slice (some ad553) l1_0.length c1_0)∧w'.cell? ⟨gb521,1,none⟩ = some (.int .u64 a1_1)∧w'.cell? ⟨gb521,2,none⟩ = some (.slice A1_2 l1_2.length c1_2)∧w'.cell? (ad553.add (x15_3).toNat) = some (.int .u64 (rd l1_0 x15_3))∧w'.cell? ⟨go29,(x15_3).toNat,none⟩ = some (.int .u64 (rd x10_3 x15_3))) (ds:=[20]) #[false,false,false,false,false,false,false,false,false,false,false,false,false,false,false,false,false,false,false,false,false] (by kernel_rfl) rfl rfl ⟨(blk_cell BK521.out 0).trans rfl,(blk_cell BK521.out 1).trans rfl,(blk_cell BK521.out 2).trans rfl,((HB.out.cell (World.block_lt_of_cell? w _ hw557_0)).trans hw557_0),hx558_0⟩ (fun hHeld => ?_);refine with_tabW mont_Product.tab20 mont_Product.bits20 (fun HT_ HW_ => ?_)
                       generalize wr.drew = w53 at HO_10 BK521 HB hx557_0 hx558_0 hHeld ⊢
                       refine pure_ (i:=0) (N:=some 97) (v:=?_) (a':=?_) #[true,false,false,false,false,false,false,false,false,false,false,false,false,false,false,false,false,false,false,false,false] rfl rfl (any_of HT_.out (by kernel_rfl)) (fun _ _ _ h => h) (Or.inl ⟨by rfl,?_⟩) ?_ ?_
                       rotate_left
                       ·
                        exact vQ
                       rotate_left
                       ·
                        exact vP
                       refine pure_ (i:=1) (N:=some 98) (v:=?_) (a':=?_) #[true,true,false,false,false,false,false,false,false,false,false,false,false,false,false,false,false,false,false,false,false] rfl rfl (any_of HT_.out (by kernel_rfl)) (fun _ _ _ h => h) (Or.inl ⟨by rfl,?_⟩) ?_ ?_
                       rotate_left
                       ·
                        exact vQ
                       rotate_left
                       ·
                        exact vP
                       refine pure_ (i:=2) (N:=some 99) (v:=?_) (a':=?_) #[true,true,true,false,false,false,false,false,false,false,false,false,false,false,false,false,false,false,false,false,false] rfl rfl (any_of HT_.out (by kernel_rfl)) (fun _ _ _ h => h) (Or.inl ⟨by rfl,?_⟩) ?_ ?_
                       rotate_left
                       ·
                        exact vQ
                       rotate_left
                       ·
                        exact vP
                       refine pure_ (i:=3) (N:=some 100) (v:=?_) (a':=?_) #[true,true,true,true,false,false,false,false,false,false,false,false,false,false,false,false,false,false,false,false,false] rfl rfl (any_of HT_.out (by kernel_rfl)) (fun _ _ _ h => h) (Or.inl ⟨by rfl,?_⟩) ?_ ?_
                       rotate_left
                       ·
                        exact vQ
                       rotate_left
                       ·
                        exact vP
                       refine pure_ (i:=4) (N:=some 101) (v:=?_) (a':=?_) #[true,true,true,true,true,false,false,false,false,false,false,false,false,false,false,false,false,false,false,false,false] rfl rfl (any_of HT_.out (by kernel_rfl)) (fun _ _ _ h => h) (Or.inl ⟨by rfl,?_⟩) ?_ ?_
                       rotate_left
                       ·
                        exact vQ
                       rotate_left
                       ·
                        exact vP
                       refine pure_ (i:=6) (N:=some 103) (v:=?_) (a':=?_) #[true,true,true,true,true,false,true,false,false,false,false,false,false,false,false,false,false,false,false,false,false] rfl rfl (any_of HT_.out (by kernel_rfl)) (fun _ _ _ h => h) (Or.inl ⟨by rfl,?_⟩) ?_ ?_
                       rotate_left
                       ·
                        exact vQ
                       rotate_left
                       ·
                        exact vP
                       refine pure_ (i:=9) (N:=some 106) (v:=?_) (a':=?_) #[true,true,true,true,true,false,true,false,false,true,false,false,false,false,false,false,false,false,false,false,false] rfl rfl (any_of HT_.out (by kernel_rfl)) (fun _ _ _ h => h) (Or.inl ⟨by rfl,?_⟩) ?_ ?_
                       rotate_left
                       ·
                        exact vQ
                       rotate_left
                       ·
                        exact vP
                       refine pure_ (i:=10) (N:=some 107) (v:=?_) (a':=?_) #[true,true,true,true,true,false,true,false,false,true,true,false,false,false,false,false,false,false,false,false,false] rfl rfl (any_of HT_.out (by kernel_rfl)) (fun _ _ _ h => h) (Or.inl ⟨by rfl,?_⟩) ?_ ?_
                       rotate_left
                       ·
                        exact vQ
                       rotate_left
                       ·
                        exact vP
                       refine pure_ (i:=11) (N:=some 108) (v:=?_) (a':=?_) #[true,true,true,true,true,false,true,false,false,true,true,true,false,false,false,false,false,false,false,false,false] rfl rfl (any_of HT_.out (by kernel_rfl)) (fun _ _ _ h => h) (Or.inl ⟨by rfl,?_⟩) ?_ ?_
                       rotate_left
                       ·
                        exact vQ
                       rotate_left
                       ·
                        exact vP
                       refine pure_ (i:=13) (N:=some 110) (v:=?_) (a':=?_) #[true,true,true,true,true,false,true,false,false,true,true,true,false,true,false,false,false,false,false,false,false] rfl rfl (any_of HT_.out (by kernel_rfl)) (fun _ _ _ h => h) (Or.inl ⟨by rfl,?_⟩) ?_ ?_
                       rotate_left
                       ·
                        exact vQ
                       rotate_left
                       ·
                        exact vP
                       refine take_ (i:=5) (N:=some 102) (v:=?_) (a':=?_) #[true,true,true,true,true,true,true,false,false,true,true,true,false,true,false,false,false,false,false,false,false] rfl rfl (take_ofW HT_.out HW_.out (by kernel_rfl)) (fun _ _ _ h => h) (Or.inl ⟨by rfl,?_⟩) hHeld ?_ ?_
                       rotate_left
                       ·
                        rintro w' ⟨s0,s1,s2,s3,s4⟩
                        go_simp
                        with_reducible rfl
                       rotate_left
                       ·
                        exact vP
                       refine pure_ (i:=7) (N:=some 104) (v:=?_) (a':=?_) #[true,true,true,true,true,true,true,true,false,true,true,true,false,true,false,false,false,false,false,false,false] rfl rfl (any_of HT_.out (by kernel_rfl)) (fun _ _ _ h => h) (Or.inl ⟨by rfl,?_⟩) ?_ ?_
                       rotate_left
                       ·
                        exact vQ
                       rotate_left
                       ·
                        exact vP
                       refine take_ (i:=8) (N:=some 105) (v:=?_) (a':=?_) #[true,true,true,true,true,true,true,true,true,true,true,true,false,true,false,false,false,false,false,false,false] rfl rfl (take_ofW HT_.out HW_.out (by kernel_rfl)) (fun _ _ _ h => h) (Or.inl ⟨by rfl,?_⟩) hHeld ?_ ?_
                       rotate_left
                       ·
                        rintro w' ⟨s0,s1,s2,s3,s4⟩
                        go_simp
                        with_reducible rfl
                       rotate_left
                       ·
                        exact vP
                       refine take_ (i:=12) (N:=some 109) (v:=?_) (a':=?_) #[true,true,true,true,true,true,true,true,true,true,true,true,true,true,false,false,false,false,false,false,false] rfl rfl (take_ofW HT_.out HW_.out (by kernel_rfl)) (fun _ _ _ h => h) (Or.inl ⟨by rfl,?_⟩) hHeld ?_ ?_
                       rotate_left
                       ·
                        rintro w' ⟨s0,s1,s2,s3,s4⟩
                        go_simp
                        with_reducible rfl
                       rotate_left
                       ·
                        exact vP
                       refine one_ (i:=14) (N:=some 111) #[true,true,true,true,true,true,true,true,true,true,true,true,true,true,true,false,false,false,false,false,false] rfl rfl (one_of HT_.out (by kernel_rfl)) (by decide) (fun K hK => ?_)
                       refine goes_ Try.func149 (by kernel_rfl) rfl #[.int .u64 (IntKind.u64.wrap ((rd y551 0) * a1_1)),.int .u64 (rd l1_0 x15_3),.int .u64 (rd x10_3 x15_3),.int .u64 x12_3] (by rfl) rfl rfl vA ?_
                       with_reducible refine (word_Mul.calls (IntKind.u64.wrap ((rd y551 0) * a1_1)) (rd l1_0 x15_3) (rd x10_3 x15_3) x12_3 t559 t560 _ A48.out).mono ?_
                       rintro e w' ⟨rfl,⟨nd,rfl⟩⟩
                       refine ⟨_,rfl,?_⟩
                       have p52:0≤((ji49):Int):=of_decide_eq_true vD
                       have q52:((ji49):Int) < ((x10_3.length:Int):Int):=of_decide_eq_true vD
                       obtain ⟨hx52_0,hf52_0⟩:=Kd.R_celln 0 HO_10.out ((ji49):Int) p52 q52
                       replace p52:=eq_true p52
                       replace q52:=eq_true q52
                       have HP54:=Kd.R_putn HO_10.out ((ji49):Int) t560
                       rw [← Ny561.out] at HP54
                       have HQ54:=Aside0.mk HP54
                       clear HP54
                       refine hK.out _ _ ⟨(blk_cell BK521.out 0).trans rfl,(blk_cell BK521.out 1).trans rfl,(blk_cell BK521.out 2).trans rfl,((HB.out.cell (World.block_lt_of_cell? w _ hw557_0)).trans hw557_0),hHeld.2.2.2.2⟩ (fun hHeld => ?_)
                       clear hK K
                       refine norm_ (a':=?_) ?_ ?_
                       rotate_left
                       ·
                        show Act.put _ (some 111) _ = _
                        simp only [Act.put,List.setIfInBounds_toArray,List.set_cons_zero,List.set_cons_succ,i64_w,i32_w]
                        rfl
                       refine pure_ (i:=15) (N:=some 96) (v:=?_) (a':=?_) #[true,true,true,true,true,true,true,true,true,true,true,true,true,true,true,true,false,false,false,false,false] rfl rfl (any_of HT_.out (by kernel_rfl)) (fun _ _ _ h => h) (Or.inl ⟨by rfl,?_⟩) ?_ ?_
                       rotate_left
                       ·
                        exact vQ
                       rotate_left
                       ·
                        exact vP
                       refine pure_ (i:=16) (N:=some 112) (v:=?_) (a':=?_) #[true,true,true,true,true,true,true,true,true,true,true,true,true,true,true,true,true,false,false,false,false] rfl rfl (any_of HT_.out (by kernel_rfl)) (fun _ _ _ h => h) (Or.inl ⟨by rfl,?_⟩) ?_ ?_
                       rotate_left
                       ·
                        exact vQ
                       rotate_left
                       ·
                        exact vP
                       refine pure_ (i:=17) (N:=some 113) (v:=?_) (a':=?_) #[true,true,true,true,true,true,true,true,true,true,true,true,true,true,true,true,true,true,false,false,false] rfl rfl (any_of HT_.out (by kernel_rfl)) (fun _ _ _ h => h) (Or.inl ⟨by rfl,?_⟩) ?_ ?_
                       rotate_left
                       ·
                        exact vQ
                       rotate_left
                       ·
                        exact vP
                       refine pure_ (i:=18) (N:=some 12) (v:=?_) (a':=?_) #[true,true,true,true,true,true,true,true,true,true,true,true,true,true,true,true,true,true,true,false,false] rfl rfl (any_of HT_.out (by kernel_rfl)) (fun _ _ _ h => h) (Or.inl ⟨by rfl,?_⟩) ?_ ?_
                       rotate_left
                       ·
                        exact vQ
                       rotate_left
                       ·
                        exact vP
                       refine pure_ (i:=19) (N:=some 114) (v:=?_) (a':=?_) #[true,true,true,true,true,true,true,true,true,true,true,true,true,true,true,true,true,true,true,true,false] rfl rfl (any_of HT_.out (by kernel_rfl)) (fun _ _ _ h => h) (Or.inl ⟨by rfl,?_⟩) ?_ ?_
                       rotate_left
                       ·
                        exact vQ
                       rotate_left
                       ·
                        exact vP
                       refine last_ (i:=20) (N:=none) #[true,true,true,true,true,true,true,true,true,true,true,true,true,true,true,true,true,true,true,true,true] rfl rfl (one_of HT_.out (by kernel_rfl)) (by decide) (fun K hK => ?_)
                       refine skip_ (w1:=?_) (by rfl) rfl ?_ ?_
                       rotate_left
                       ·
                        go_simp
                        rfl
                       refine hK.out _ _ ?_
                       clear hK K
                       refine done_ (done_of HT_.out (by kernel_rfl)) ?_
                       try go_wp2
                       (try simp only [← hl10_3])
                       go_roundg k3
                       case measure => have:=HK1.out;have:=HK2.out;have:=HK3.out;omega
                       case rel => exact ⟨(y561),(t559),(wrap64 (x15_3 + 1)),(by first | rfl | (simp;done) | (simp [*];done)),(by first | rfl | (simp;done) | (simp [*];done)),H',⟨by have:=HK1.out;have:=HK2.out;have:=HK3.out;omega⟩,⟨by (try simp only [hl10_3]);(with_reducible repeat (first | apply Kd.R_alloc | apply Kd.R_drewN | apply Kd.R_drew));exact HQ54.out⟩,⟨by (try simp only [hl10_3]);(with_reducible repeat (first | refine blk_drewN ?_ _ | refine blk_drew ?_ | refine blk_alloc ?_ _));refine blk_far ?_ (by have h_:=Kd.R_ne HO_10.out BK521.out (by decide);intro e_;exact h_ (by rw [e_];rfl)) _;(with_reducible repeat (first | refine blk_drewN ?_ _ | refine blk_drew ?_ | refine blk_alloc ?_ _));exact BK521.out⟩,⟨by repeat (first | (with_reducible first | exact HB.out | apply below_alloc | apply pw_below_drewN | apply below_drew1 | refine below_set ?_ GB29.out | refine below_set ?_ GE521.out) | exact HB.out)⟩⟩
                      ·
                       rw [if_neg c51] at H
                       exact absurd H (by simp)
                     ·
                      rw [if_neg c50] at H
                      exact absurd H (by simp)
                    ·
                     rw [if_neg c47] at H
                     exact absurd H (by simp)
                   ·
                    rw [if_neg c46] at H
                    exact absurd H (by simp)
                  ·
                   rw [if_neg c45] at H
                   exact absurd H (by simp)
                 ·
                  rw [if_neg c44] at H
                  have c44b0:decide (x15_3 < (l1_0.length:Int)) = false:=decide_eq_false c44
                  (try (have c44b0L0:=c44b0;rw [hl10_3] at c44b0L0))
                  clear c44
                  by_cases c55:0≤(l1_0.length:Int)
                  ·
                   rw [if_pos c55] at H
                   have c55b0:decide (0≤(l1_0.length:Int)) = true:=decide_eq_true c55
                   (try (have c55b0L0:=c55b0;rw [hl10_3] at c55b0L0))
                   have c55b1:decide (0≤l1_0.length) = true:=decide_eq_true (by omega)
                   (try (have c55b1L0:=c55b1;rw [hl10_3] at c55b1L0))
                   clear c55
                   by_cases c56:(l1_0.length:Int) < (x10_3.length:Int)
                   ·
                    rw [if_pos c56] at H
                    have c56b0:decide ((l1_0.length:Int) < (x10_3.length:Int)) = true:=decide_eq_true c56
                    (try (have c56b0L0:=c56b0;rw [hl10_3] at c56b0L0))
                    have c56b1:decide (l1_0.length < x10_3.length) = true:=decide_eq_true (Int.ofNat_lt.mp c56)
                    (try (have c56b1L0:=c56b1;rw [hl10_3] at c56b1L0))
                    clear c56
                    replace H:=Option.bind_eq_some_iff.mp H
                    obtain ⟨⟨t563,t564⟩,A570,H⟩:=H
                    replace H:(if 0≤(wrap64 ((l1_0.length:Int) - 1)) then (if (wrap64 ((l1_0.length:Int) - 1)) < (x10_3.length:Int) then ((some (x10_3.set ((wrap64 ((l1_0.length:Int) - 1)):Int).toNat t563:List Int)).bind fun y565 => (if 0≤(wrap64 ((l1_0.length:Int) + 1)) then (if (wrap64 ((l1_0.length:Int) + 1)) < (x10_3.length:Int) then (mont_Product.l0 k3 l2 l3 (l1_0.length:Int) (y565.set ((l1_0.length:Int):Int).toNat (IntKind.u64.wrap ((rd y565 (wrap64 ((l1_0.length:Int) + 1))) + t564))) (l1_0.length:Int) (wrap64 (x25_1 + 1)) l1_0 a1_1 l1_2) else (none)) else (none))) else (none)) else (none)) = some r:=H
                    have A57:=Aside0.mk A570
                    clear A570
                    obtain ⟨ji58,hji58⟩:∃ j_:Int,(wrap64 ((l1_0.length:Int) - 1)) = j_:=⟨_,rfl⟩
                    replace H:(if 0≤(ji58) then (if (ji58) < (x10_3.length:Int) then ((some (x10_3.set ((ji58):Int).toNat t563:List Int)).bind fun y565 => (if 0≤(wrap64 ((l1_0.length:Int) + 1)) then (if (wrap64 ((l1_0.length:Int) + 1)) < (x10_3.length:Int) then (mont_Product.l0 k3 l2 l3 (l1_0.length:Int) (y565.set ((l1_0.length:Int):Int).toNat (IntKind.u64.wrap ((rd y565 (wrap64 ((l1_0.length:Int) + 1))) + t564))) (l1_0.length:Int) (wrap64 (x25_1 + 1)) l1_0 a1_1 l1_2) else (none)) else (none))) else (none)) else (none)) = some r:=by first | (rw [hji58] at H;exact H) | (simp only [hji58] at H ⊢;exact H)
                    (try rw [hji58] at A57)
                    have hji58w:(IntKind.i64.wrap ((l1_0.length:Int) - 1)) = ji58:=(i64_w _).trans hji58
                    by_cases c59:0≤(ji58)
                    ·
                     rw [if_pos c59] at H
                     have c59b0:decide (0≤(ji58)) = true:=decide_eq_true c59
                     clear c59
                     by_cases c60:(ji58) < (x10_3.length:Int)
                     ·
                      rw [if_pos c60] at H
                      have c60b0:decide ((ji58) < (x10_3.length:Int)) = true:=decide_eq_true c60
                      (try (have c60b0L0:=c60b0;rw [hl10_3] at c60b0L0))
                      clear c60
                      obtain ⟨y565,hy565⟩:∃ y_:List Int,y_ = (x10_3.set ((ji58):Int).toNat t563):=⟨_,rfl⟩
                      replace H:(if 0≤(wrap64 ((l1_0.length:Int) + 1)) then (if (wrap64 ((l1_0.length:Int) + 1)) < (x10_3.length:Int) then (mont_Product.l0 k3 l2 l3 (l1_0.length:Int) (y565.set ((l1_0.length:Int):Int).toNat (IntKind.u64.wrap ((rd y565 (wrap64 ((l1_0.length:Int) + 1))) + t564))) (l1_0.length:Int) (wrap64 (x25_1 + 1)) l1_0 a1_1 l1_2) else (none)) else (none)) = some r:=by first | (rw [hy565];with_reducible exact H) | (have H2_:=(Option.bind_some _ _).symm.trans H;rw [hy565];with_reducible exact H2_) | (have H2_:=(Option.bind_some _ _).symm.trans H;with_reducible exact H2_) | with_reducible exact H | (rw [hy565];exact H) | exact H
                      have Ny565:=Aside0.mk hy565
                      clear hy565
                      obtain ⟨ji62,hji62⟩:∃ j_:Int,(wrap64 ((l1_0.length:Int) + 1)) = j_:=⟨_,rfl⟩
                      replace H:(if 0≤(ji62) then (if (ji62) < (x10_3.length:Int) then (mont_Product.l0 k3 l2 l3 (l1_0.length:Int) (y565.set ((l1_0.length:Int):Int).toNat (IntKind.u64.wrap ((rd y565 (ji62)) + t564))) (l1_0.length:Int) (wrap64 (x25_1 + 1)) l1_0 a1_1 l1_2) else (none)) else (none)) = some r:=by first | (rw [hji62] at H;exact H) | (simp only [hji62] at H ⊢;exact H)
                      (try rw [hji62] at A57)
                      have hji62w:(IntKind.i64.wrap ((l1_0.length:Int) + 1)) = ji62:=(i64_w _).trans hji62
                      have hjj_:ji62 = ji30:=hji62.symm.trans hji30
                      subst hjj_
                      by_cases c63:0≤(ji62)
                      ·
                       rw [if_pos c63] at H
                       have c63b0:decide (0≤(ji62)) = true:=decide_eq_true c63
                       clear c63
                       by_cases c64:(ji62) < (x10_3.length:Int)
                       ·
                        rw [if_pos c64] at H
                        have c64b0:decide ((ji62) < (x10_3.length:Int)) = true:=decide_eq_true c64
                        (try (have c64b0L0:=c64b0;rw [hl10_3] at c64b0L0))
                        clear c64
                        obtain ⟨y567,hy567⟩:∃ y_:List Int,y_ = (y565.set ((l1_0.length:Int):Int).toNat (IntKind.u64.wrap ((rd y565 (ji62)) + t564))):=⟨_,rfl⟩
                        replace H:(mont_Product.l0 k3 l2 l3 (l1_0.length:Int) y567 (l1_0.length:Int) (wrap64 (x25_1 + 1)) l1_0 a1_1 l1_2) = some r:=by first | (rw [hy567];with_reducible exact H) | (have H2_:=(Option.bind_some _ _).symm.trans H;rw [hy567];with_reducible exact H2_) | (have H2_:=(Option.bind_some _ _).symm.trans H;with_reducible exact H2_) | with_reducible exact H | (rw [hy567];exact H) | exact H
                        have Ny567:=Aside0.mk hy567
                        clear hy567
                        have H':=Aside0.mk H
                        clear H
                        have p562:0≤((l1_0.length:Int):Int):=of_decide_eq_true vD
                        have q562:(l1_0.length:Int) < (x10_3.length:Int):=of_decide_eq_true vD
                        obtain ⟨ad562,e562,hx562_0⟩:=Kd.at_int (Kd.R_reads' HO_10.out).2.2 (l1_0.length:Int) p562 q562
                        obtain rfl:(⟨go29,0,none⟩:Addr) = ad562:=(by injection e562)
                        (first | simp only [add_plain] at hx562_0 | simp only [add_at] at hx562_0 | simp only [Addr.add,Nat.zero_add] at hx562_0 | skip)
                        (try simp only [Go.IntWalk.toNatUp] at hx562_0)
                        (try simp only [hl10_3] at p562)
                        (try simp only [hl10_3] at q562)
                        (try simp only [hl10_3] at hx562_0)
                        replace p562:=eq_true p562
                        replace q562:=eq_true q562
                        go_wp2_with (first | ((with_reducible refine gate_callee (f:=144) rfl ?_);refine goesL_ (some 124) rfl rfl Try.func144 (by kernel_rfl) rfl #[.int .u64 (rd x10_3 (l1_0.length:Int)),.int .u64 x12_3,.int .u64 0] rfl vA ?_;(with_reducible refine (word_Add.calls (rd x10_3 (l1_0.length:Int)) x12_3 0 t563 t564 _ A57.out).mono ?_);rintro e w' ⟨rfl,⟨nd,rfl⟩⟩;refine ⟨_,rfl,?_⟩;(try (rw [drewN_self wr];generalize hq_:World.drewN wr _ = wr;have n0_:Aside0 (Kd.R (Kd.int .u64) 24 wr w.heap.size (fun _ => True) (.slice (some ⟨go29,0,none⟩) x10_3.length co37) x10_3):=⟨by rw [← hq_];exact (vR HO_10.out)⟩;have n1_:Aside0 (wr.heap[gb521]? = some (.cells #[.slice (some ad553) l1_0.length c1_0,.int .u64 a1_1,.slice A1_2 l1_2.length c1_2] 26 (0,0))):=⟨by rw [← hq_];exact (vK BK521.out)⟩;have n2_:Aside0 (Below w.heap.size w wr):=⟨by rw [← hq_];exact (vBg HB.out GE521.out)⟩;clear HO_10 BK521 HB hq_;have HO_10:=n0_;have BK521:=n1_;have HB:=n2_;clear n0_ n1_ n2_));have p61:0≤((ji58):Int):=of_decide_eq_true vD;have q61:((ji58):Int) < ((x10_3.length:Int):Int):=of_decide_eq_true vD;obtain ⟨hx61_0,hf61_0⟩:=Kd.R_celln 0 HO_10.out ((ji58):Int) p61 q61;replace p61:=eq_true p61;replace q61:=eq_true q61;obtain ⟨hy66_,hz66_⟩:=Kd.R_celln 0 HO_10.out ((ji58):Int) (of_decide_eq_true vD) (of_decide_eq_true vD);have HP66:=Kd.R_putg HO_10.out ((ji58):Int) t563) | ((with_reducible refine gate_store (t:=24) (p:=127) rfl ?_);refine store_event (t:=24) (p:=127) (v:=?vo_w67) (w1:=(wr.setCell ⟨go29,((ji58):Int).toNat,none⟩ (.int .u64 t563))) ?hg ?ho ?hn ?hr ?_;(case ho => rfl);(case hg => rfl);(case hn => rfl);(case hr => first | (go_simp;done) | (go_simp;rfl));intro w67 hw;have hg:wr.grownBy w67 (some go29):=(by rw [hw];exact HP66.2);have hp_:Kd.R (Kd.int .u64) 24 w67 w.heap.size (fun _ => True) (.slice (some ⟨go29,0,none⟩) x10_3.length co37) y565:=(by rw [hw,Ny565.out];exact HP66.1);clear HP66;have n0_:=Aside0.mk (hp_);have n1_:=Aside0.mk (blk_grown (g:=gb521) (o:=.cells #[.slice (some ad553) l1_0.length c1_0,.int .u64 a1_1,.slice A1_2 l1_2.length c1_2] 26 (0,0)) (vK BK521.out) hg (Kd.R_ne HO_10.out BK521.out (by decide)));have n2_:=Aside0.mk ((by rw [hw];exact below_set (HB.out) GB29.out:Below w.heap.size w w67));clear HO_10;clear BK521;clear HB;have HO_10:=n0_;have BK521:=n1_;have HB:=n2_;clear n0_ n1_ n2_;clear hg hw hp_;have p566:0≤((ji62):Int):=of_decide_eq_true vD;have q566:(ji62) < (y565.length:Int):=(by have h_:((ji62):Int) < ((x10_3.length:Int):Int):=of_decide_eq_true vD;first | (have e_:=(Kd.R_reads' HO_10.out).1;omega) | simpa only [Ny565.out,List.length_set] using h_);have ql566:(((ji62):Int) < ((x10_3.length:Int):Int)) = True:=eq_true (of_decide_eq_true vD);obtain ⟨ad566,e566,hx566_0⟩:=Kd.at_int (Kd.R_reads' HO_10.out).2.2 (ji62) p566 q566;obtain rfl:(⟨go29,0,none⟩:Addr) = ad566:=(by injection e566);(first | simp only [add_plain] at hx566_0 | simp only [add_at] at hx566_0 | simp only [Addr.add,Nat.zero_add] at hx566_0 | skip);replace p566:=eq_true p566;replace q566:=eq_true q566;have p65:0≤((l1_0.length:Int):Int):=of_decide_eq_true vD;have q65:((l1_0.length:Int):Int) < ((x10_3.length:Int):Int):=of_decide_eq_true vD;obtain ⟨hx65_0,hf65_0⟩:=Kd.R_celln 0 HO_10.out ((l1_0.length:Int):Int) p65 q65;replace p65:=eq_true p65;replace q65:=eq_true q65;obtain ⟨hy68_,hz68_⟩:=Kd.R_celln 0 HO_10.out ((l1_0.length:Int):Int) (of_decide_eq_true vD) (of_decide_eq_true vD);(try simp only [Go.IntWalk.toNatUp] at hy68_ hz68_);have HP68:=Kd.R_putg HO_10.out ((l1_0.length:Int):Int) (IntKind.u64.wrap ((rd y565 (ji62)) + t564))) | ((with_reducible refine gate_store (t:=24) (p:=137) rfl ?_);refine store_event (t:=24) (p:=137) (v:=?vo_w69) (w1:=(w67.setCell ⟨go29,((l1_0.length:Int):Int).toNat,none⟩ (.int .u64 (IntKind.u64.wrap ((rd y565 (ji62)) + t564))))) ?hg ?ho ?hn ?hr ?_;(case ho => rfl);(case hg => rfl);(case hn => rfl);(case hr => first | (go_simp;done) | (go_simp;rfl));intro w69 hw;have hg:w67.grownBy w69 (some go29):=(by rw [hw];exact HP68.2);have hp_:Kd.R (Kd.int .u64) 24 w69 w.heap.size (fun _ => True) (.slice (some ⟨go29,0,none⟩) x10_3.length co37) y567:=(by rw [hw,Ny567.out];exact HP68.1);clear HP68;have n0_:=Aside0.mk (hp_);have n1_:=Aside0.mk (blk_grown (g:=gb521) (o:=.cells #[.slice (some ad553) l1_0.length c1_0,.int .u64 a1_1,.slice A1_2 l1_2.length c1_2] 26 (0,0)) (vK BK521.out) hg (Kd.R_ne HO_10.out BK521.out (by decide)));have n2_:=Aside0.mk ((by rw [hw];exact below_set (HB.out) GB29.out:Below w.heap.size w w69));clear HO_10;clear BK521;clear HB;have HO_10:=n0_;have BK521:=n1_;have HB:=n2_;clear n0_ n1_ n2_;clear hg hw hp_))
                        (try simp only [← hl10_3])
                        go_roundg k3
                        case measure => have:=HK1.out;have:=HK2.out;have:=HK3.out;omega
                        case rel => exact ⟨(y567),(wrap64 (x25_1 + 1)),(by first | rfl | (simp;done) | (simp [*];done)),H',⟨by have:=HK1.out;have:=HK2.out;have:=HK3.out;omega⟩,⟨by (try simp only [hl10_3]);(with_reducible repeat (first | apply Kd.R_alloc | apply Kd.R_drewN | apply Kd.R_drew));exact HO_10.out⟩,⟨by (try simp only [hl10_3]);(with_reducible repeat (first | refine blk_drewN ?_ _ | refine blk_drew ?_ | refine blk_alloc ?_ _));exact BK521.out⟩,⟨by repeat (first | (with_reducible first | exact HB.out | apply below_alloc | apply pw_below_drewN | apply below_drew1 | refine below_set ?_ GE521.out) | exact HB.out)⟩⟩
                       ·
                        rw [if_neg c64] at H
                        exact absurd H (by simp)
                      ·
                       rw [if_neg c63] at H
                       exact absurd H (by simp)
                     ·
                      rw [if_neg c60] at H
                      exact absurd H (by simp)
                    ·
                     rw [if_neg c59] at H
                     exact absurd H (by simp)
                   ·
                    rw [if_neg c56] at H
                    exact absurd H (by simp)
                  ·
                   rw [if_neg c55] at H
                   exact absurd H (by simp)
              ·
               rw [if_neg c35] at H
               exact absurd H (by simp)
             ·
              rw [if_neg c34] at H
              exact absurd H (by simp)
            ·
             rw [if_neg c32] at H
             exact absurd H (by simp)
           ·
            rw [if_neg c31] at H
            exact absurd H (by simp)
          ·
           rw [if_neg c27] at H
           exact absurd H (by simp)
         ·
          rw [if_neg c26] at H
          exact absurd H (by simp)
     ·
      rw [if_neg c12] at H
      have c12b0:decide (x25_1 < (l1_0.length:Int)) = false:=decide_eq_false c12
      clear c12
      by_cases c70:0≤(l1_0.length:Int)
      ·
       rw [if_pos c70] at H
       have c70b0:=eq_true c70
       have c70b1:decide (0≤(l1_0.length:Int)) = true:=decide_eq_true c70
       clear c70
       by_cases c71:(l1_0.length:Int)≤(x10_1.length:Int)
       ·
        rw [if_pos c71] at H
        have c71b0:=eq_true c71
        have c71b1:decide ((l1_0.length:Int)≤(x10_1.length:Int)) = true:=decide_eq_true c71
        clear c71
        obtain ⟨y525,hy525⟩:∃ y_:List Int,y_ = (x10_1.take ((l1_0.length:Int):Int).toNat):=⟨_,rfl⟩
        replace H:((limbs_Sub.f y525 l1_0).bind fun bt529 => (if (l1_0.length:Int) < (x10_1.length:Int) then ((limbs_Select.f (Go.bits .or .u64 (rd x10_1 (l1_0.length:Int)) (Go.bits .xor .u64 1 bt529.2)) bt529.1 (x10_1.take ((l1_0.length:Int):Int).toNat)).bind fun t538 => (some t538)) else (none))) = some r:=by first | (rw [hy525];with_reducible exact H) | (have H2_:=(Option.bind_some _ _).symm.trans H;rw [hy525];with_reducible exact H2_) | (have H2_:=(Option.bind_some _ _).symm.trans H;with_reducible exact H2_) | with_reducible exact H | (rw [hy525];exact H) | exact H
        have Ny525:=Aside0.mk hy525
        clear hy525
        replace H:=Option.bind_eq_some_iff.mp H
        obtain ⟨⟨t529,t530⟩,A720,H⟩:=H
        replace H:(if (l1_0.length:Int) < (x10_1.length:Int) then ((limbs_Select.f (Go.bits .or .u64 (rd x10_1 (l1_0.length:Int)) (Go.bits .xor .u64 1 t530)) t529 (x10_1.take ((l1_0.length:Int):Int).toNat)).bind fun t538 => (some t538)) else (none)) = some r:=H
        have A72:=Aside0.mk A720
        clear A720
        by_cases c73:(l1_0.length:Int) < (x10_1.length:Int)
        ·
         rw [if_pos c73] at H
         have c73b0:decide ((l1_0.length:Int) < (x10_1.length:Int)) = true:=decide_eq_true c73
         have c73b1:decide (l1_0.length < x10_1.length) = true:=decide_eq_true (Int.ofNat_lt.mp c73)
         clear c73
         have c74b0:=eq_true (of_decide_eq_true vD:0≤(l1_0.length:Int))
         have c75b0:=eq_true (of_decide_eq_true vD:(l1_0.length:Int)≤(x10_1.length:Int))
         obtain ⟨y534,hy534⟩:∃ y_:List Int,y_ = (x10_1.take ((l1_0.length:Int):Int).toNat):=⟨_,rfl⟩
         replace H:((limbs_Select.f (Go.bits .or .u64 (rd x10_1 (l1_0.length:Int)) (Go.bits .xor .u64 1 t530)) t529 y534).bind fun t538 => (some t538)) = some r:=by first | (rw [hy534];with_reducible exact H) | (have H2_:=(Option.bind_some _ _).symm.trans H;rw [hy534];with_reducible exact H2_) | (have H2_:=(Option.bind_some _ _).symm.trans H;with_reducible exact H2_) | with_reducible exact H | (rw [hy534];exact H) | exact H
         have Ny534:=Aside0.mk hy534
         clear hy534
         replace H:=Option.bind_eq_some_iff.mp H
         obtain ⟨t538,A760,H⟩:=H
         replace H:(some t538) = some r:=H
         have A76:=Aside0.mk A760
         clear A760
         obtain rfl:=Option.some.inj H
         try go_wp2
         have n0_:=Aside0.mk (Kd.R_drew HO_10.out)
         have n1_:=Aside0.mk (blk_drew BK521.out)
         have n2_:=Aside0.mk (below_drew1 HB.out)
         clear HO_10
         clear BK521
         clear HB
         have HO_10:=n0_
         have BK521:=n1_
         have HB:=n2_
         clear n0_ n1_ n2_
         obtain ⟨Ao79,co79,eo79⟩:=Kd.R_slice HO_10.out
         (first | subst eo79 | (injection eo79 with f1_ f2_ f3_;have f4_:=f1_.symm;have f5_:=f3_.symm;clear f1_ f2_ f3_;subst f4_;subst f5_))
         have q78:((l1_0.length:Int):Int)≤((x10_1.length:Int):Int):=of_decide_eq_true vD
         obtain ⟨i078,hi078,_,hsz78,_⟩:=info_parts info24
         have hroom78:x10_1.length≤co79:=(Kd.R_reads' HO_10.out).2.1
         have hC78:Kd.C (Kd.int .u64) _ Ao79 x10_1.length x10_1:=(Kd.R_reads' HO_10.out).2.2
         have hcut78:=cut_to (P:=Try.prog) 23 24 .i64 Try.underlying23 hi078 Ao79 x10_1.length co79 (l1_0.length:Int) (of_decide_eq_true vD) q78 hroom78
         have hr78:=Kd.C_take (m:=((l1_0.length:Int):Int).toNat) hC78 (by omega)
         have hy78:y525.length = ((l1_0.length:Int):Int).toNat:=(by rw [Ny525.out,List.length_take];omega)
         rw [← Ny525.out] at hr78
         rw [← hy78] at hcut78
         have HR528:=Aside0.mk hr78
         have HC528:=Aside0.mk (show y525.length≤co79 from by omega)
         clear hr78 hC78 hroom78 hi078 hsz78
         have KY78:=Aside0.mk hy78
         clear hy78
         have KL78:=Aside0.mk (show ((l1_0.length:Int):Int).toNat≤x10_1.length from by omega)
         replace q78:=eq_true q78
         refine start_ (n:=12) (S:=fun w' => w'.cell? ⟨gb521,0,none⟩ = some (.slice A1_0 l1_0.length c1_0)∧w'.cell? ⟨gb521,1,none⟩ = some (.int .u64 a1_1)∧w'.cell? ⟨gb521,2,none⟩ = some (.slice A1_2 l1_2.length c1_2)) (ds:=[]) #[false,false,false,false,false,false,false,false,false,false,false,false] (by kernel_rfl) rfl rfl ⟨(blk_cell BK521.out 0).trans rfl,(blk_cell BK521.out 1).trans rfl,(blk_cell BK521.out 2).trans rfl⟩ (fun hHeld => ?_);refine with_tabW mont_Product.tab24 mont_Product.bits24 (fun HT_ HW_ => ?_)
         generalize wr.drew = w77 at HO_10 BK521 HB HR528 hHeld ⊢
         refine pure_ (i:=0) (N:=some 140) (v:=?_) (a':=?_) #[true,false,false,false,false,false,false,false,false,false,false,false] rfl rfl (any_of HT_.out (by kernel_rfl)) (fun _ _ _ h => h) (Or.inl ⟨by rfl,?_⟩) ?_ ?_
         rotate_left
         ·
          exact vQ
         rotate_left
         ·
          exact vP
         refine pure_ (i:=1) (N:=some 141) (v:=?_) (a':=?_) #[true,true,false,false,false,false,false,false,false,false,false,false] rfl rfl (any_of HT_.out (by kernel_rfl)) (fun _ _ _ h => h) (Or.inl ⟨by rfl,?_⟩) ?_ ?_
         rotate_left
         ·
          exact vQ
         rotate_left
         ·
          exact vP
         refine pure_ (i:=2) (N:=some 142) (v:=?_) (a':=?_) #[true,true,true,false,false,false,false,false,false,false,false,false] rfl rfl (any_of HT_.out (by kernel_rfl)) (fun _ _ _ h => h) (Or.inl ⟨by rfl,?_⟩) ?_ ?_
         rotate_left
         ·
          exact vQ
         rotate_left
         ·
          exact vP
         refine pure_ (i:=3) (N:=some 143) (v:=?_) (a':=?_) #[true,true,true,true,false,false,false,false,false,false,false,false] rfl rfl (any_of HT_.out (by kernel_rfl)) (fun _ _ _ h => h) (Or.inl ⟨by rfl,?_⟩) ?_ ?_
         rotate_left
         ·
          exact vQ
         rotate_left
         ·
          exact vP
         refine pure_ (i:=4) (N:=some 144) (v:=?_) (a':=?_) #[true,true,true,true,true,false,false,false,false,false,false,false] rfl rfl (any_of HT_.out (by kernel_rfl)) (fun _ _ _ h => h) (Or.inl ⟨by rfl,?_⟩) ?_ ?_
         rotate_left
         ·
          exact vQ
         rotate_left
         ·
          exact vP
         refine take_ (i:=5) (N:=some 145) (v:=?_) (a':=?_) #[true,true,true,true,true,true,false,false,false,false,false,false] rfl rfl (take_ofW HT_.out HW_.out (by kernel_rfl)) (fun _ _ _ h => h) (Or.inl ⟨by rfl,?_⟩) hHeld ?_ ?_
         rotate_left
         ·
          rintro w' ⟨s0,s1,s2⟩
          go_simp
          with_reducible rfl
         rotate_left
         ·
          exact vP
         refine one_ (i:=6) (N:=some 146) #[true,true,true,true,true,true,true,false,false,false,false,false] rfl rfl (one_of HT_.out (by kernel_rfl)) (by decide) (fun K hK => ?_)
         refine goes_ Try.func107 (by kernel_rfl) rfl #[.pointer none,.slice Ao79 y525.length co79,.slice A1_0 l1_0.length c1_0] (by rfl) rfl rfl vA ?_
         with_reducible refine (limbs_Sub.calls  _ _ y525 _ _ l1_0 t529 t530 _ ?side1 ?side2 ?side3 ?side4 A72.out).mono ?_
         (case side1 => repeat (first | exact (by repeat (first | (with_reducible exact HR528.out) | (with_reducible refine Kd.C_alloc ?_ _) | (with_reducible refine Kd.C_drewN ?_ _) | (with_reducible refine Kd.C_drew ?_) | exact HR528.out)) | (with_reducible refine Kd.C_alloc ?_ _) | (with_reducible refine Kd.C_drewN ?_ _) | (with_reducible refine Kd.C_drew ?_)))
         (case side2 => exact HC528.out)
         (case side3 => repeat (first | exact (Kd.C_below HR1_0.out HB.out) | (with_reducible refine Kd.C_alloc ?_ _) | (with_reducible refine Kd.C_drewN ?_ _) | (with_reducible refine Kd.C_drew ?_)))
         (case side4 => exact HC1_0.out)
         rintro e w80 ⟨v531,rfl,ho0,hb⟩
         refine ⟨_,rfl,?_⟩
         have n0_:=Aside0.mk (Kd.R_elder' (vR HO_10.out) (Kd.R_base ho0) hb)
         have n1_:=Aside0.mk (Kd.R_lower (Kd.R_new' ho0 (Kd.R_lt (vR HO_10.out))) (below_size (vBg HB.out GE521.out)))
         have n2_:=Aside0.mk (blk_below (g:=gb521) (o:=.cells #[.slice A1_0 l1_0.length c1_0,.int .u64 a1_1,.slice A1_2 l1_2.length c1_2] 26 (0,0)) (vK BK521.out) hb)
         have n3_:=Aside0.mk (Kd.C_below (by repeat (first | (with_reducible exact HR528.out) | (with_reducible refine Kd.C_alloc ?_ _) | (with_reducible refine Kd.C_drewN ?_ _) | (with_reducible refine Kd.C_drew ?_) | exact HR528.out)) hb)
         have n4_:=Aside0.mk (below_step (vBg HB.out GE521.out) hb)
         clear HO_10
         clear BK521
         clear HR528
         clear HB
         have HO_10:=n0_
         have HO532:=n1_
         have BK521:=n2_
         have HR528:=n3_
         have HB:=n4_
         clear n0_ n1_ n2_ n3_ n4_
         (try clear hb)
         (try clear hb2)
         (try clear hk)
         (try clear hi)
         (try clear ho0)
         refine hK.out _ _ ⟨(blk_cell BK521.out 0).trans rfl,(blk_cell BK521.out 1).trans rfl,(blk_cell BK521.out 2).trans rfl⟩ (fun hHeld => ?_)
         clear hK K
         refine norm_ (a':=?_) ?_ ?_
         rotate_left
         ·
          show Act.put _ (some 146) _ = _
          simp only [Act.put,List.setIfInBounds_toArray,List.set_cons_zero,List.set_cons_succ,i64_w,i32_w]
          rfl
         refine pure_ (i:=7) (N:=some 139) (v:=?_) (a':=?_) #[true,true,true,true,true,true,true,true,false,false,false,false] rfl rfl (any_of HT_.out (by kernel_rfl)) (fun _ _ _ h => h) (Or.inl ⟨by rfl,?_⟩) ?_ ?_
         rotate_left
         ·
          exact vQ
         rotate_left
         ·
          exact vP
         refine pure_ (i:=8) (N:=some 147) (v:=?_) (a':=?_) #[true,true,true,true,true,true,true,true,true,false,false,false] rfl rfl (any_of HT_.out (by kernel_rfl)) (fun _ _ _ h => h) (Or.inl ⟨by rfl,?_⟩) ?_ ?_
         rotate_left
         ·
          exact vQ
         rotate_left
         ·
          exact vP
         refine pure_ (i:=9) (N:=some 148) (v:=?_) (a':=?_) #[true,true,true,true,true,true,true,true,true,true,false,false] rfl rfl (any_of HT_.out (by kernel_rfl)) (fun _ _ _ h => h) (Or.inl ⟨by rfl,?_⟩) ?_ ?_
         rotate_left
         ·
          exact vQ
         rotate_left
         ·
          exact vP
         refine pure_ (i:=10) (N:=some 16) (v:=?_) (a':=?_) #[true,true,true,true,true,true,true,true,true,true,true,false] rfl rfl (any_of HT_.out (by kernel_rfl)) (fun _ _ _ h => h) (Or.inl ⟨by rfl,?_⟩) ?_ ?_
         rotate_left
         ·
          exact vQ
         rotate_left
         ·
          exact vP
         refine pure_ (i:=11) (N:=some 17) (v:=?_) (a':=?_) #[true,true,true,true,true,true,true,true,true,true,true,true] rfl rfl (any_of HT_.out (by kernel_rfl)) (fun _ _ _ h => h) (Or.inl ⟨by rfl,?_⟩) ?_ ?_
         rotate_left
         ·
          exact vQ
         rotate_left
         ·
          exact vP
         refine done_ (done_of HT_.out (by kernel_rfl)) ?_
         try go_wp2
         have n0_:=Aside0.mk (Kd.R_drew HO_10.out)
         have n1_:=Aside0.mk (Kd.R_drew HO532.out)
         have n2_:=Aside0.mk (blk_drew BK521.out)
         have n3_:=Aside0.mk (Kd.C_drew HR528.out)
         have n4_:=Aside0.mk (below_drew1 HB.out)
         clear HO_10
         clear HO532
         clear BK521
         clear HR528
         clear HB
         have HO_10:=n0_
         have HO532:=n1_
         have BK521:=n2_
         have HR528:=n3_
         have HB:=n4_
         clear n0_ n1_ n2_ n3_ n4_
         have p533:0≤((l1_0.length:Int):Int):=of_decide_eq_true vD
         have q533:(l1_0.length:Int) < (x10_1.length:Int):=of_decide_eq_true vD
         obtain ⟨ad533,e533,hx533_0⟩:=Kd.at_int (Kd.R_reads' HO_10.out).2.2 (l1_0.length:Int) p533 q533
         cases e533
         (try simp only [Go.IntWalk.toNatUp] at hx533_0)
         replace p533:=eq_true p533
         replace q533:=eq_true q533
         have q82:((l1_0.length:Int):Int)≤((x10_1.length:Int):Int):=of_decide_eq_true vD
         obtain ⟨i082,hi082,_,hsz82,_⟩:=info_parts info24
         have hroom82:x10_1.length≤co79:=(Kd.R_reads' HO_10.out).2.1
         have hC82:Kd.C (Kd.int .u64) _ (some ad533) x10_1.length x10_1:=(Kd.R_reads' HO_10.out).2.2
         (try clear hcut78)
         have hcut82:=cut_to (P:=Try.prog) 23 24 .i64 Try.underlying23 hi082 (some ad533) x10_1.length co79 (l1_0.length:Int) (of_decide_eq_true vD) q82 hroom82
         have hr82:=Kd.C_take (m:=((l1_0.length:Int):Int).toNat) hC82 (by omega)
         have hy82:y534.length = ((l1_0.length:Int):Int).toNat:=(by rw [Ny534.out,List.length_take];omega)
         rw [← Ny534.out] at hr82
         rw [← hy82] at hcut82
         have HR537:=Aside0.mk hr82
         have HC537:=Aside0.mk (show y534.length≤co79 from by omega)
         clear hr82 hC82 hroom82 hi082 hsz82
         have KY82:=Aside0.mk hy82
         clear hy82
         have KL82:=Aside0.mk (show ((l1_0.length:Int):Int).toNat≤x10_1.length from by omega)
         replace q82:=eq_true q82
         obtain ⟨Ao83,co83,eo83⟩:=Kd.R_slice HO532.out
         (first | subst eo83 | (injection eo83 with f1_ f2_ f3_;have f4_:=f1_.symm;have f5_:=f3_.symm;clear f1_ f2_ f3_;subst f4_;subst f5_))
         refine start_ (n:=14) (S:=fun w' => w'.cell? (ad533.add ((l1_0.length:Int)).toNat) = some (.int .u64 (rd x10_1 (l1_0.length:Int)))) (ds:=[]) #[false,false,false,false,false,false,false,false,false,false,false,false,false,false] (by kernel_rfl) rfl rfl (hx533_0) (fun hHeld => ?_);refine with_tabW mont_Product.tab25 mont_Product.bits25 (fun HT_ HW_ => ?_)
         generalize w80.drew = w81 at HO_10 HO532 BK521 HR528 HB HR537 hx533_0 hHeld ⊢
         refine pure_ (i:=0) (N:=some 149) (v:=?_) (a':=?_) #[true,false,false,false,false,false,false,false,false,false,false,false,false,false] rfl rfl (any_of HT_.out (by kernel_rfl)) (fun _ _ _ h => h) (Or.inl ⟨by rfl,?_⟩) ?_ ?_
         rotate_left
         ·
          exact vQ
         rotate_left
         ·
          exact vP
         refine pure_ (i:=1) (N:=some 150) (v:=?_) (a':=?_) #[true,true,false,false,false,false,false,false,false,false,false,false,false,false] rfl rfl (any_of HT_.out (by kernel_rfl)) (fun _ _ _ h => h) (Or.inl ⟨by rfl,?_⟩) ?_ ?_
         rotate_left
         ·
          exact vQ
         rotate_left
         ·
          exact vP
         refine pure_ (i:=2) (N:=some 151) (v:=?_) (a':=?_) #[true,true,true,false,false,false,false,false,false,false,false,false,false,false] rfl rfl (any_of HT_.out (by kernel_rfl)) (fun _ _ _ h => h) (Or.inl ⟨by rfl,?_⟩) ?_ ?_
         rotate_left
         ·
          exact vQ
         rotate_left
         ·
          exact vP
         refine pure_ (i:=3) (N:=some 152) (v:=?_) (a':=?_) #[true,true,true,true,false,false,false,false,false,false,false,false,false,false] rfl rfl (any_of HT_.out (by kernel_rfl)) (fun _ _ _ h => h) (Or.inl ⟨by rfl,?_⟩) ?_ ?_
         rotate_left
         ·
          exact vQ
         rotate_left
         ·
          exact vP
         refine pure_ (i:=5) (N:=some 154) (v:=?_) (a':=?_) #[true,true,true,true,false,true,false,false,false,false,false,false,false,false] rfl rfl (any_of HT_.out (by kernel_rfl)) (fun _ _ _ h => h) (Or.inl ⟨by rfl,?_⟩) ?_ ?_
         rotate_left
         ·
          exact vQ
         rotate_left
         ·
          exact vP
         refine pure_ (i:=6) (N:=some 155) (v:=?_) (a':=?_) #[true,true,true,true,false,true,true,false,false,false,false,false,false,false] rfl rfl (any_of HT_.out (by kernel_rfl)) (fun _ _ _ h => h) (Or.inl ⟨by rfl,?_⟩) ?_ ?_
         rotate_left
         ·
          exact vQ
         rotate_left
         ·
          exact vP
         refine pure_ (i:=8) (N:=some 157) (v:=?_) (a':=?_) #[true,true,true,true,false,true,true,false,true,false,false,false,false,false] rfl rfl (any_of HT_.out (by kernel_rfl)) (fun _ _ _ h => h) (Or.inl ⟨by rfl,?_⟩) ?_ ?_
         rotate_left
         ·
          exact vQ
         rotate_left
         ·
          exact vP
         refine pure_ (i:=9) (N:=some 158) (v:=?_) (a':=?_) #[true,true,true,true,false,true,true,false,true,true,false,false,false,false] rfl rfl (any_of HT_.out (by kernel_rfl)) (fun _ _ _ h => h) (Or.inl ⟨by rfl,?_⟩) ?_ ?_
         rotate_left
         ·
          exact vQ
         rotate_left
         ·
          exact vP
         refine pure_ (i:=10) (N:=some 159) (v:=?_) (a':=?_) #[true,true,true,true,false,true,true,false,true,true,true,false,false,false] rfl rfl (any_of HT_.out (by kernel_rfl)) (fun _ _ _ h => h) (Or.inl ⟨by rfl,?_⟩) ?_ ?_
         rotate_left
         ·
          exact vQ
         rotate_left
         ·
          exact vP
         refine pure_ (i:=11) (N:=some 160) (v:=?_) (a':=?_) #[true,true,true,true,false,true,true,false,true,true,true,true,false,false] rfl rfl (any_of HT_.out (by kernel_rfl)) (fun _ _ _ h => h) (Or.inl ⟨by rfl,?_⟩) ?_ ?_
         rotate_left
         ·
          exact vQ
         rotate_left
         ·
          exact vP
         refine take_ (i:=4) (N:=some 153) (v:=?_) (a':=?_) #[true,true,true,true,true,true,true,false,true,true,true,true,false,false] rfl rfl (take_ofW HT_.out HW_.out (by kernel_rfl)) (fun _ _ _ h => h) (Or.inl ⟨by rfl,?_⟩) hHeld ?_ ?_
         rotate_left
         ·
          intro w' s0
          (try simp only [Int.toNat_natCast] at s0)
          go_simp
          with_reducible rfl
         rotate_left
         ·
          exact vP
         refine pure_ (i:=7) (N:=some 156) (v:=?_) (a':=?_) #[true,true,true,true,true,true,true,true,true,true,true,true,false,false] rfl rfl (any_of HT_.out (by kernel_rfl)) (fun _ _ _ h => h) (Or.inl ⟨by rfl,?_⟩) ?_ ?_
         rotate_left
         ·
          exact vQ
         rotate_left
         ·
          exact vP
         refine one_ (i:=12) (N:=some 161) #[true,true,true,true,true,true,true,true,true,true,true,true,true,false] rfl rfl (one_of HT_.out (by kernel_rfl)) (by decide) (fun K hK => ?_)
         refine goes_ Try.func108 (by kernel_rfl) rfl #[.pointer none,.int .u64 (Go.bits .or .u64 (rd x10_1 (l1_0.length:Int)) (Go.bits .xor .u64 1 t530)),.slice Ao83 t529.length co83,.slice (some ad533) y534.length co79] (by rfl) rfl rfl vA ?_
         with_reducible refine (limbs_Select.calls  (Go.bits .or .u64 (rd x10_1 (l1_0.length:Int)) (Go.bits .xor .u64 1 t530)) _ _ t529 _ _ y534 t538 _ ?side1 ?side2 ?side3 ?side4 A76.out).mono ?_
         (case side1 => repeat (first | exact (Kd.R_reads' HO532.out).2.2 | (with_reducible refine Kd.C_alloc ?_ _) | (with_reducible refine Kd.C_drewN ?_ _) | (with_reducible refine Kd.C_drew ?_)))
         (case side2 => exact (Kd.R_reads' HO532.out).2.1)
         (case side3 => repeat (first | exact (by repeat (first | (with_reducible exact HR537.out) | (with_reducible refine Kd.C_alloc ?_ _) | (with_reducible refine Kd.C_drewN ?_ _) | (with_reducible refine Kd.C_drew ?_) | exact HR537.out)) | (with_reducible refine Kd.C_alloc ?_ _) | (with_reducible refine Kd.C_drewN ?_ _) | (with_reducible refine Kd.C_drew ?_)))
         (case side4 => exact HC537.out)
         rintro e w84 ⟨v539,rfl,ho0,hb⟩
         have HS0_:=(hb.cell (World.block_lt_of_cell? _ _ (hHeld))).trans (hHeld)
         refine ⟨_,rfl,?_⟩
         have n0_:=Aside0.mk (Kd.R_elder' (vR HO_10.out) (Kd.R_base ho0) hb)
         have n1_:=Aside0.mk (Kd.R_elder' (vR HO532.out) (Kd.R_base ho0) hb)
         have n2_:=Aside0.mk (Kd.R_lower (Kd.R_new' (Kd.R_new' ho0 (Kd.R_lt (vR HO_10.out))) (Kd.R_lt (vR HO532.out))) (below_size (vBg HB.out GE521.out)))
         have n3_:=Aside0.mk (blk_below (g:=gb521) (o:=.cells #[.slice A1_0 l1_0.length c1_0,.int .u64 a1_1,.slice A1_2 l1_2.length c1_2] 26 (0,0)) (vK BK521.out) hb)
         have n4_:=Aside0.mk (Kd.C_below (by repeat (first | (with_reducible exact HR528.out) | (with_reducible refine Kd.C_alloc ?_ _) | (with_reducible refine Kd.C_drewN ?_ _) | (with_reducible refine Kd.C_drew ?_) | exact HR528.out)) hb)
         have n5_:=Aside0.mk (Kd.C_below (by repeat (first | (with_reducible exact HR537.out) | (with_reducible refine Kd.C_alloc ?_ _) | (with_reducible refine Kd.C_drewN ?_ _) | (with_reducible refine Kd.C_drew ?_) | exact HR537.out)) hb)
         have n6_:=Aside0.mk (below_step (vBg HB.out GE521.out) hb)
         clear HO_10
         clear HO532
         clear BK521
         clear HR528
         clear HR537
         clear HB
         have HO_10:=n0_
         have HO532:=n1_
         have HO540:=n2_
         have BK521:=n3_
         have HR528:=n4_
         have HR537:=n5_
         have HB:=n6_
         clear n0_ n1_ n2_ n3_ n4_ n5_ n6_
         (try clear hb)
         (try clear hb2)
         (try clear hk)
         (try clear hi)
         (try clear ho0)
         refine hK.out _ _ (HS0_) (fun hHeld => ?_)
         clear hK K
         refine norm_ (a':=?_) ?_ ?_
         rotate_left
         ·
          show Act.put _ (some 161) _ = _
          simp only [Act.put,List.setIfInBounds_toArray,List.set_cons_zero,List.set_cons_succ,i64_w,i32_w]
          rfl
         refine pure_ (i:=13) (N:=some 8) (v:=?_) (a':=?_) #[true,true,true,true,true,true,true,true,true,true,true,true,true,true] rfl rfl (any_of HT_.out (by kernel_rfl)) (fun _ _ _ h => h) (Or.inl ⟨by rfl,?_⟩) ?_ ?_
         rotate_left
         ·
          exact vQ
         rotate_left
         ·
          exact vP
         refine done_ (done_of HT_.out (by kernel_rfl)) ?_
         try go_wp2
         go_ret
         exact ⟨_,by first | rfl | (simp [errW_none,errW_some] <;> rfl) | (simp only [← hji5];first | rfl | (simp [errW_none,errW_some] <;> rfl)) | (simp [*,errW_none,errW_some] <;> rfl),by (with_reducible repeat (first | apply Kd.R_alloc | apply Kd.R_drewN | apply Kd.R_drew));exact Kd.R_mono HO540.out (fun _ hk => trivial),by repeat (first | (with_reducible first | exact HB.out | apply below_alloc | apply pw_below_drewN | apply below_drew1 | refine below_set ?_ GE521.out) | exact HB.out)⟩
        ·
         rw [if_neg c73] at H
         exact absurd H (by simp)
       ·
        rw [if_neg c71] at H
        exact absurd H (by simp)
      ·
       rw [if_neg c70] at H
       exact absurd H (by simp)
  ·
   rw [if_neg c7] at H
   exact absurd H (by simp)
 ·
  rw [if_neg c6] at H
  exact absurd H (by simp)
end Go.Proofs.Ytonpekldcnankaa.X
