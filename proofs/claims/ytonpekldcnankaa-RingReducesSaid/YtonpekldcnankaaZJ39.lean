/- Texts of the walk and of the plain laws, laid together by a program: X40. -/
import Derived.Test.YtonpekldcnankaaZJ0
import Derived.Test.YtonpekldcnankaaZJ1
import Derived.Test.YtonpekldcnankaaZJ2
import Derived.Test.YtonpekldcnankaaZJ3
import Derived.Test.YtonpekldcnankaaZJ5
import Derived.Test.YtonpekldcnankaaZJ4
import Derived.Test.YtonpekldcnankaaZJ9
import Derived.Test.YtonpekldcnankaaZJ16
import Derived.Test.YtonpekldcnankaaZJ24
import Derived.Test.YtonpekldcnankaaZJ25
import Derived.Test.YtonpekldcnankaaZJ35
import Derived.Test.YtonpekldcnankaaZJ36
import Derived.Test.YtonpekldcnankaaZJ38
namespace Go.Proofs.Ytonpekldcnankaa.X
open Go.RowKit Go.Proofs.YtonpekldcnankaaW.PrintWords Go.Proofs.YtonpekldcnankaaW.PrintLast Go.Proofs.YtonpekldcnankaaW.PrintMore
attribute [local go_sem] max2_int min2_int max_two min_two max_three min_three max_four min_four
set_option linter.unusedVariables false
set_option linter.unusedSimpArgs false
def sconcelaw07_RingReduces.j0:Nat→List Int→Bool→List Int→Int→List Int→Option (Bool)
 | 0,_,_,_,_,_ => none
 | k + 1,x1,x28,x653000,x653001,x653002 => if x28 = true then (some true) else ((ring_Reduce.f k x653000 x653001 x653002 x1).bind fun bt662 => ((sconceref07_Reduce.f k x653000 x653001 x653002 x1).bind fun bt666 => ((sconcelaw07_as.f k bt662.1 bt662.2 bt666.1 bt666.2).bind fun t670 => (some t670))))
def sconcelaw07_RingReduces.f (k:Nat) (l0_0:List Int) (a0_1:Int) (l0_2:List Int) (l1:List Int):Option (Bool):=(sconcelaw07_awake.f k).bind fun t653 => (if t653 = true then ((sconcelaw05_Few.f k (([l0_0,l0_2]:List (List Int)))).bind fun t657 => (if t657 = true then ((sconcelaw05_Few.f k (([l1]:List (List Int)))).bind fun t661 => (if t661 = true then (sconcelaw07_RingReduces.j0 k l1 false l0_0 a0_1 l0_2) else (sconcelaw07_RingReduces.j0 k l1 ((l1.length:Int) != 301) l0_0 a0_1 l0_2))) else (sconcelaw07_RingReduces.j0 k l1 true l0_0 a0_1 l0_2))) else (some false))
set_option maxHeartbeats 8000000 in
set_option maxRecDepth 100000 in
theorem sconcelaw07_RingReduces.calls (k:Nat) (P0_0_:Nat→Prop) (A0_0:Option Addr) (c0_0:Nat) (l0_0:List Int) (a0_1:Int) (P0_2_:Nat→Prop) (A0_2:Option Addr) (c0_2:Nat) (l0_2:List Int) (P1_:Nat→Prop) (A1:Option Addr) (c1:Nat) (l1:List Int) (r:Bool) (w:World) (hs0_0:Kd.V (Kd.int .u64) 24 w w.heap.size (fun k_ => P0_0_ k_) (.slice A0_0 l0_0.length c0_0) l0_0) (hs0_2:Kd.V (Kd.int .u64) 24 w w.heap.size (fun k_ => P0_2_ k_) (.slice A0_2 l0_2.length c0_2) l0_2) (hs1:Kd.V (Kd.int .u64) 24 w w.heap.size (fun k_ => P1_ k_) (.slice A1 l1.length c1) l1) (h:sconcelaw07_RingReduces.f k l0_0 a0_1 l0_2 l1 = some r) :
  Calls Try.prog 6 #[.agg #[.slice A0_0 l0_0.length c0_0,.int .u64 a0_1,.slice A0_2 l0_2.length c0_2],.slice A1 l1.length c1] w fun e w' => e = .returned (.bool r)∧Below w.heap.size w w':=by
 have hu26:=Try.underlying26
 have HO0_0:=Aside0.mk (show Kd.V (Kd.int .u64) 24 w w.heap.size (fun k_ => ((P0_0_ k_∨P0_2_ k_∨P1_ k_)∨w.heap.size≤k_)) (.slice A0_0 l0_0.length c0_0) l0_0 from Kd.V_mono hs0_0 (fun k_ hk => .inl (.inl hk)))
 have HO0_2:=Aside0.mk (show Kd.V (Kd.int .u64) 24 w w.heap.size (fun k_ => ((P0_0_ k_∨P0_2_ k_∨P1_ k_)∨w.heap.size≤k_)) (.slice A0_2 l0_2.length c0_2) l0_2 from Kd.V_mono hs0_2 (fun k_ hk => .inl (.inr (.inl hk))))
 have HO1:=Aside0.mk (show Kd.V (Kd.int .u64) 24 w w.heap.size (fun k_ => ((P0_0_ k_∨P0_2_ k_∨P1_ k_)∨w.heap.size≤k_)) (.slice A1 l1.length c1) l1 from Kd.V_mono hs1 (fun k_ hk => .inl (.inr (.inr hk))))
 have HB:=Aside0.mk (Below.refl w.heap.size w)
 have H:((sconcelaw07_awake.f k).bind fun t653 => (if t653 = true then ((sconcelaw05_Few.f k (([l0_0,l0_2]:List (List Int)))).bind fun t657 => (if t657 = true then ((sconcelaw05_Few.f k (([l1]:List (List Int)))).bind fun t661 => (if t661 = true then (sconcelaw07_RingReduces.j0 k l1 false l0_0 a0_1 l0_2) else (sconcelaw07_RingReduces.j0 k l1 ((l1.length:Int) != 301) l0_0 a0_1 l0_2))) else (sconcelaw07_RingReduces.j0 k l1 true l0_0 a0_1 l0_2))) else (some false))) = some r:=h
 clear h
 replace H:=Option.bind_eq_some_iff.mp H
 obtain ⟨t653,A30,H⟩:=H
 replace H:(if t653 = true then ((sconcelaw05_Few.f k (([l0_0,l0_2]:List (List Int)))).bind fun t657 => (if t657 = true then ((sconcelaw05_Few.f k (([l1]:List (List Int)))).bind fun t661 => (if t661 = true then (sconcelaw07_RingReduces.j0 k l1 false l0_0 a0_1 l0_2) else (sconcelaw07_RingReduces.j0 k l1 ((l1.length:Int) != 301) l0_0 a0_1 l0_2))) else (sconcelaw07_RingReduces.j0 k l1 true l0_0 a0_1 l0_2))) else (some false)) = some r:=H
 have A3:=Aside0.mk A30
 clear A30
 by_cases c4:t653 = true
 ·
  subst c4
  have H1:((sconcelaw05_Few.f k (([l0_0,l0_2]:List (List Int)))).bind fun t657 => (if t657 = true then ((sconcelaw05_Few.f k (([l1]:List (List Int)))).bind fun t661 => (if t661 = true then (sconcelaw07_RingReduces.j0 k l1 false l0_0 a0_1 l0_2) else (sconcelaw07_RingReduces.j0 k l1 ((l1.length:Int) != 301) l0_0 a0_1 l0_2))) else (sconcelaw07_RingReduces.j0 k l1 true l0_0 a0_1 l0_2))) = some r:=by rw [if_pos rfl] at H;exact H
  clear H
  have H:=H1
  clear H1
  have HC5:=Aside0.mk H
  clear H
  go_enter Try.func6,Try.ntmps6
  go_upto_region 3 with (first | ((with_reducible refine gate_dst (N:=2) rfl ?_);(try (refine gate_guard (by rfl) ?_;dsimp only));refine box_event ?hg (N:=2) ?hd (cs:=#[.slice A0_0 l0_0.length c0_0,.int .u64 a0_1,.slice A0_2 l0_2.length c0_2]) (t:=26) ?hr ?_;(case hd => rfl);(case hg => rfl);(case hr => first | (go_simp;done) | (go_simp;rfl));intro gb652 hg w6 hbox hb;have n0_:=Aside0.mk (Kd.V_below (Kd.V_elderB (vV HO0_0.out) gb652 (Nat.le_of_eq hg.symm)) hb);have n1_:=Aside0.mk (Kd.V_below (Kd.V_elderB (vV HO0_2.out) gb652 (Nat.le_of_eq hg.symm)) hb);have n2_:=Aside0.mk (Kd.V_below (Kd.V_elderB (vV HO1.out) gb652 (Nat.le_of_eq hg.symm)) hb);have n3_:=Aside0.mk (below_step (vB HB.out) hb);have n4_:=Aside0.mk (hbox);have n5_:=Aside0.mk ((by rw [hg];exact (below_size (vB HB.out)):w.heap.size≤gb652));have n6_:=Aside0.mk ((by rw [hg];exact (below_size (vB HB.out)):w.heap.size≤gb652));clear HO0_0;clear HO0_2;clear HO1;clear HB;have HO0_0:=n0_;have HO0_2:=n1_;have HO1:=n2_;have HB:=n3_;have BK652:=n4_;have GW652:=n5_;have GE652:=n6_;clear n0_ n1_ n2_ n3_ n4_ n5_ n6_;clear hb hbox hg) | ((with_reducible refine gate_callee (f:=16) rfl ?_);refine goesL_ (some 9) rfl rfl Try.func16 (by kernel_rfl) rfl #[] rfl vA ?_;(with_reducible refine (sconcelaw07_awake.calls k  true _ A3.out).mono ?_);rintro e w7 ⟨rfl,hb⟩;refine ⟨_,rfl,?_⟩;have n0_:=Aside0.mk (Kd.V_below (vV HO0_0.out) hb);have n1_:=Aside0.mk (Kd.V_below (vV HO0_2.out) hb);have n2_:=Aside0.mk (Kd.V_below (vV HO1.out) hb);have n3_:=Aside0.mk (blk_below (g:=gb652) (o:=.cells #[.slice A0_0 l0_0.length c0_0,.int .u64 a0_1,.slice A0_2 l0_2.length c0_2] 26 (0,0)) (vK BK652.out) hb);have n4_:=Aside0.mk (below_step (vBg HB.out GE652.out) hb);clear HO0_0;clear HO0_2;clear HO1;clear BK652;clear HB;have HO0_0:=n0_;have HO0_2:=n1_;have HO1:=n2_;have BK652:=n3_;have HB:=n4_;clear n0_ n1_ n2_ n3_ n4_;(try clear hb);(try clear hb2);(try clear hk);(try clear hi)))
  (try simp only [Act.put,List.setIfInBounds_toArray,List.set_cons_zero,List.set_cons_succ])
  go_cut [28] (fun v28 wc => ∃ (kq:Nat) (x28_4:Bool),v28 = .bool x28_4∧Aside0 (sconcelaw07_RingReduces.j0 kq l1 x28_4 l0_0 a0_1 l0_2 = some r)∧Aside0 (kq≤k)∧Aside0 (Kd.V (Kd.int .u64) 24 wc w.heap.size (fun k_ => ((P0_0_ k_∨P0_2_ k_∨P1_ k_)∨w.heap.size≤k_)∧k_≠gb652) (.slice A1 l1.length c1) l1)∧Aside0 (Kd.V (Kd.int .u64) 24 wc w.heap.size (fun k_ => ((P0_0_ k_∨P0_2_ k_∨P1_ k_)∨w.heap.size≤k_)∧k_≠gb652) (.slice A0_0 l0_0.length c0_0) l0_0)∧Aside0 (Kd.V (Kd.int .u64) 24 wc w.heap.size (fun k_ => ((P0_0_ k_∨P0_2_ k_∨P1_ k_)∨w.heap.size≤k_)∧k_≠gb652) (.slice A0_2 l0_2.length c0_2) l0_2)∧Aside0 (wc.heap[gb652]? = some (.cells #[(.slice A0_0 l0_0.length c0_0),.int .u64 a0_1,(.slice A0_2 l0_2.length c0_2)] 26 (0,0)))∧Aside0 (Below w.heap.size w wc))
  case first =>
   have H:=HC5.out
   clear HC5
   obtain ⟨y654,hy654⟩:∃ y_:List (List Int),y_ = (([l0_0,l0_2]:List (List Int))):=⟨_,rfl⟩
   replace H:((sconcelaw05_Few.f k y654).bind fun t657 => (if t657 = true then ((sconcelaw05_Few.f k (([l1]:List (List Int)))).bind fun t661 => (if t661 = true then (sconcelaw07_RingReduces.j0 k l1 false l0_0 a0_1 l0_2) else (sconcelaw07_RingReduces.j0 k l1 ((l1.length:Int) != 301) l0_0 a0_1 l0_2))) else (sconcelaw07_RingReduces.j0 k l1 true l0_0 a0_1 l0_2))) = some r:=by first | (rw [hy654];with_reducible exact H) | (have H2_:=(Option.bind_some _ _).symm.trans H;rw [hy654];with_reducible exact H2_) | (have H2_:=(Option.bind_some _ _).symm.trans H;with_reducible exact H2_) | with_reducible exact H | (rw [hy654];exact H) | exact H
   have Ny654:=Aside0.mk hy654
   clear hy654
   replace H:=Option.bind_eq_some_iff.mp H
   obtain ⟨t657,A80,H⟩:=H
   replace H:(if t657 = true then ((sconcelaw05_Few.f k (([l1]:List (List Int)))).bind fun t661 => (if t661 = true then (sconcelaw07_RingReduces.j0 k l1 false l0_0 a0_1 l0_2) else (sconcelaw07_RingReduces.j0 k l1 ((l1.length:Int) != 301) l0_0 a0_1 l0_2))) else (sconcelaw07_RingReduces.j0 k l1 true l0_0 a0_1 l0_2)) = some r:=H
   have A8:=Aside0.mk A80
   clear A80
   by_cases c9:t657 = true
   ·
    subst c9
    have H1:((sconcelaw05_Few.f k (([l1]:List (List Int)))).bind fun t661 => (if t661 = true then (sconcelaw07_RingReduces.j0 k l1 false l0_0 a0_1 l0_2) else (sconcelaw07_RingReduces.j0 k l1 ((l1.length:Int) != 301) l0_0 a0_1 l0_2))) = some r:=by rw [if_pos rfl] at H;exact H
    clear H
    have H:=H1
    clear H1
    obtain ⟨y658,hy658⟩:∃ y_:List (List Int),y_ = (([l1]:List (List Int))):=⟨_,rfl⟩
    replace H:((sconcelaw05_Few.f k y658).bind fun t661 => (if t661 = true then (sconcelaw07_RingReduces.j0 k l1 false l0_0 a0_1 l0_2) else (sconcelaw07_RingReduces.j0 k l1 ((l1.length:Int) != 301) l0_0 a0_1 l0_2))) = some r:=by first | (rw [hy658];with_reducible exact H) | (have H2_:=(Option.bind_some _ _).symm.trans H;rw [hy658];with_reducible exact H2_) | (have H2_:=(Option.bind_some _ _).symm.trans H;with_reducible exact H2_) | with_reducible exact H | (rw [hy658];exact H) | exact H
    have Ny658:=Aside0.mk hy658
    clear hy658
    replace H:=Option.bind_eq_some_iff.mp H
    obtain ⟨t661,A100,H⟩:=H
    replace H:(if t661 = true then (sconcelaw07_RingReduces.j0 k l1 false l0_0 a0_1 l0_2) else (sconcelaw07_RingReduces.j0 k l1 ((l1.length:Int) != 301) l0_0 a0_1 l0_2)) = some r:=H
    have A10:=Aside0.mk A100
    clear A100
    by_cases c11:t661 = true
    ·
     subst c11
     have H1:(sconcelaw07_RingReduces.j0 k l1 false l0_0 a0_1 l0_2) = some r:=by rw [if_pos rfl] at H;exact H
     clear H
     have H:=H1
     clear H1
     have H':=Aside0.mk H
     clear H
     have hcz12_0:w7.cell? ⟨gb652,0,none⟩ = some (.slice A0_0 l0_0.length c0_0):=(blk_cell BK652.out 0).trans rfl
     have hcz12_1:w7.cell? ⟨gb652,1,none⟩ = some (.int .u64 a0_1):=(blk_cell BK652.out 1).trans rfl
     have hcz12_2:w7.cell? ⟨gb652,2,none⟩ = some (.slice A0_2 l0_2.length c0_2):=(blk_cell BK652.out 2).trans rfl
     have hfz12_0:=blk_frozen BK652.out 0
     have hfz12_1:=blk_frozen BK652.out 1
     have hfz12_2:=blk_frozen BK652.out 2
     go_wp2_with (first | ((with_reducible refine gate_dst (N:=15) rfl ?_);(try (refine gate_guard (by rfl) ?_;dsimp only));refine Kd.N_lit (Kd.slice 24 (Kd.int .u64)) _ 23 ?hg (N':=15) ?hd (xs:=([l0_0,l0_2]:List (List Int))) (inner:=[.slice A0_0 l0_0.length c0_0,.slice A0_2 l0_2.length c0_2]) (ok:=(fun k_ => ((P0_0_ k_∨P0_2_ k_∨P1_ k_)∨w.heap.size≤k_)∧k_≠gb652)) (okp:=(fun k_ => ((P0_0_ k_∨P0_2_ k_∨P1_ k_)∨w.heap.size≤k_)∧k_≠gb652)) ?hr ?hp (fun _ hk => hk) ((show ∀ k_,w7.heap.size≤k_→(fun k_ => ((P0_0_ k_∨P0_2_ k_∨P1_ k_)∨w.heap.size≤k_)∧k_≠gb652) k_ from fun k_ hk => ⟨(.inr (Nat.le_trans (below_size (vBg HB.out GE652.out)) hk)),Kd.freshB (g:=gb652) (o:=.cells #[.slice A0_0 l0_0.length c0_0,.int .u64 a0_1,.slice A0_2 l0_2.length c0_2] 26 (0,0)) (vK BK652.out) k_ hk⟩) _ (Nat.le_refl _)) (Below.refl _ _) (Nat.le_refl _) (by simp) ?_;(case hd => rfl);(case hg => rfl);(case hr => first | (go_simp;done) | (go_simp;rfl));(case hp => exact (Reps.one (show Kd.FK (Kd.slice 24 (Kd.int .u64)) _ _ l0_0 [.slice A0_0 l0_0.length c0_0] from (Kd.FK_slice_mk (Kd.V_reads' (Kd.V_mono (ok':=(fun k_ => ((P0_0_ k_∨P0_2_ k_∨P1_ k_)∨w.heap.size≤k_)∧k_≠gb652)) (HO0_0.out) (fun k_ hk => ⟨hk.1,hk.2⟩))).2.1 (Kd.V_F (by (with_reducible repeat (first | apply Kd.V_alloc | apply Kd.V_drewN | apply Kd.V_drew));exact (Kd.V_mono (ok':=(fun k_ => ((P0_0_ k_∨P0_2_ k_∨P1_ k_)∨w.heap.size≤k_)∧k_≠gb652)) (HO0_0.out) (fun k_ hk => ⟨hk.1,hk.2⟩)))))) (Reps.one (show Kd.FK (Kd.slice 24 (Kd.int .u64)) _ _ l0_2 [.slice A0_2 l0_2.length c0_2] from (Kd.FK_slice_mk (Kd.V_reads' (Kd.V_mono (ok':=(fun k_ => ((P0_0_ k_∨P0_2_ k_∨P1_ k_)∨w.heap.size≤k_)∧k_≠gb652)) (HO0_2.out) (fun k_ hk => ⟨hk.1,hk.2⟩))).2.1 (Kd.V_F (by (with_reducible repeat (first | apply Kd.V_alloc | apply Kd.V_drewN | apply Kd.V_drew));exact (Kd.V_mono (ok':=(fun k_ => ((P0_0_ k_∨P0_2_ k_∨P1_ k_)∨w.heap.size≤k_)∧k_≠gb652)) (HO0_2.out) (fun k_ hk => ⟨hk.1,hk.2⟩)))))) (Reps.none _ _))));intro v655 w13 ho14 hb hg_ hnew_;clear hg_ hnew_;(first | rw [← Ny654.out] at ho14 | (simp only [Int.reduceToNat] at ho14;rw [← Ny654.out] at ho14));have n0_:=Aside0.mk (Kd.V_elder' (vV HO0_0.out) (Kd.N_base ho14) hb);have n1_:=Aside0.mk (Kd.V_elder' (vV HO0_2.out) (Kd.N_base ho14) hb);have n2_:=Aside0.mk (Kd.V_elder' (vV HO1.out) (Kd.N_base ho14) hb);have n3_:=Aside0.mk (Kd.N_lower ho14 (below_size (vBg HB.out GE652.out)));have n4_:=Aside0.mk (blk_below (g:=gb652) (o:=.cells #[.slice A0_0 l0_0.length c0_0,.int .u64 a0_1,.slice A0_2 l0_2.length c0_2] 26 (0,0)) (vK BK652.out) hb);have n5_:=Aside0.mk (below_step (vBg HB.out GE652.out) hb);clear HO0_0;clear HO0_2;clear HO1;clear BK652;clear HB;have HO0_0:=n0_;have HO0_2:=n1_;have HO1:=n2_;have HO656:=n3_;have BK652:=n4_;have HB:=n5_;clear n0_ n1_ n2_ n3_ n4_ n5_;clear hb ho14;obtain ⟨Ao15,co15,eo15⟩:=Kd.N_slice HO656.out;subst eo15) | ((with_reducible refine gate_callee (f:=31) rfl ?_);refine goesL_ (some 16) rfl rfl Try.func31 (by kernel_rfl) rfl #[.slice Ao15 y654.length co15] rfl vA ?_;(with_reducible refine (sconcelaw05_Few.calls k _ _ y654 true _ ?side1 ?side2 A8.out).mono ?_);(case side1 => repeat (first | exact (Kd.N_reads' HO656.out).2.2 | (with_reducible refine Kd.C_alloc ?_ _) | (with_reducible refine Kd.C_drewN ?_ _) | (with_reducible refine Kd.C_drew ?_)));(case side2 => exact (Kd.N_reads' HO656.out).2.1);rintro e w' ⟨rfl,⟨nd,rfl⟩⟩;refine ⟨_,rfl,?_⟩) | ((with_reducible refine gate_dst (N:=20) rfl ?_);(try (refine gate_guard (by rfl) ?_;dsimp only));refine Kd.N_lit (Kd.slice 24 (Kd.int .u64)) _ 23 ?hg (N':=20) ?hd (xs:=([l1]:List (List Int))) (inner:=[.slice A1 l1.length c1]) (ok:=(fun k_ => ((P0_0_ k_∨P0_2_ k_∨P1_ k_)∨w.heap.size≤k_)∧some k_≠(.slice Ao15 y654.length co15:Value).ownBlock∧k_≠gb652)) (okp:=(fun k_ => ((P0_0_ k_∨P0_2_ k_∨P1_ k_)∨w.heap.size≤k_)∧some k_≠(.slice Ao15 y654.length co15:Value).ownBlock∧k_≠gb652)) ?hr ?hp (fun _ hk => hk) ((show ∀ k_,w13.heap.size≤k_→(fun k_ => ((P0_0_ k_∨P0_2_ k_∨P1_ k_)∨w.heap.size≤k_)∧some k_≠(.slice Ao15 y654.length co15:Value).ownBlock∧k_≠gb652) k_ from fun k_ hk => ⟨(.inr (Nat.le_trans (below_size (vBg HB.out GE652.out)) hk)),Kd.fresh' (Kd.N_lt (by (with_reducible repeat (first | apply Kd.N_alloc | apply Kd.N_drewN | apply Kd.N_drew));exact HO656.out)) k_ hk,Kd.freshB (g:=gb652) (o:=.cells #[.slice A0_0 l0_0.length c0_0,.int .u64 a0_1,.slice A0_2 l0_2.length c0_2] 26 (0,0)) (vK BK652.out) k_ hk⟩) _ (Nat.le_refl _)) (Below.refl _ _) (Nat.le_refl _) (by simp) ?_;(case hd => rfl);(case hg => rfl);(case hr => first | (go_simp;done) | (go_simp;rfl));(case hp => exact (Reps.one (show Kd.FK (Kd.slice 24 (Kd.int .u64)) _ _ l1 [.slice A1 l1.length c1] from (Kd.FK_slice_mk (Kd.V_reads' (Kd.V_mono (ok':=(fun k_ => ((P0_0_ k_∨P0_2_ k_∨P1_ k_)∨w.heap.size≤k_)∧some k_≠(.slice Ao15 y654.length co15:Value).ownBlock∧k_≠gb652)) (HO1.out) (fun k_ hk => ⟨hk.1.1,⟨hk.2,hk.1.2⟩⟩))).2.1 (Kd.V_F (by (with_reducible repeat (first | apply Kd.V_alloc | apply Kd.V_drewN | apply Kd.V_drew));exact (Kd.V_mono (ok':=(fun k_ => ((P0_0_ k_∨P0_2_ k_∨P1_ k_)∨w.heap.size≤k_)∧some k_≠(.slice Ao15 y654.length co15:Value).ownBlock∧k_≠gb652)) (HO1.out) (fun k_ hk => ⟨hk.1.1,⟨hk.2,hk.1.2⟩⟩)))))) (Reps.none _ _)));intro v659 w16 ho17 hb hg_ hnew_;clear hg_ hnew_;(first | rw [← Ny658.out] at ho17 | (simp only [Int.reduceToNat] at ho17;rw [← Ny658.out] at ho17));have n0_:=Aside0.mk (Kd.V_elder' (vV HO0_0.out) (Kd.N_base ho17) hb);have n1_:=Aside0.mk (Kd.V_elder' (vV HO0_2.out) (Kd.N_base ho17) hb);have n2_:=Aside0.mk (Kd.V_elder' (vV HO1.out) (Kd.N_base ho17) hb);have n3_:=Aside0.mk (Kd.N_elder' (by (with_reducible repeat (first | apply Kd.N_alloc | apply Kd.N_drewN | apply Kd.N_drew));exact HO656.out) (Kd.N_base ho17) hb);have n4_:=Aside0.mk (Kd.N_lower ho17 (below_size (vBg HB.out GE652.out)));have n5_:=Aside0.mk (blk_below (g:=gb652) (o:=.cells #[.slice A0_0 l0_0.length c0_0,.int .u64 a0_1,.slice A0_2 l0_2.length c0_2] 26 (0,0)) (vK BK652.out) hb);have n6_:=Aside0.mk (below_step (vBg HB.out GE652.out) hb);clear HO0_0;clear HO0_2;clear HO1;clear HO656;clear BK652;clear HB;have HO0_0:=n0_;have HO0_2:=n1_;have HO1:=n2_;have HO656:=n3_;have HO660:=n4_;have BK652:=n5_;have HB:=n6_;clear n0_ n1_ n2_ n3_ n4_ n5_ n6_;clear hb ho17;obtain ⟨Ao18,co18,eo18⟩:=Kd.N_slice HO660.out;subst eo18) | (go_at_call 31;(with_reducible refine (sconcelaw05_Few.calls k _ _ y658 true _ ?side1 ?side2 A10.out).mono ?_);(case side1 => repeat (first | exact (Kd.N_reads' HO660.out).2.2 | (with_reducible refine Kd.C_alloc ?_ _) | (with_reducible refine Kd.C_drewN ?_ _) | (with_reducible refine Kd.C_drew ?_)));(case side2 => exact (Kd.N_reads' HO660.out).2.1);rintro e w' ⟨rfl,⟨nd,rfl⟩⟩))
     go_meet
     case rel => exact ⟨_,(false),(by first | rfl | (simp;done) | (simp [*];done)),H',⟨by first | omega | exact Nat.le_refl _⟩,⟨by (with_reducible repeat (first | apply Kd.V_alloc | apply Kd.V_drewN | apply Kd.V_drew));exact Kd.V_mono HO1.out (fun _ hk => ⟨hk.1.1.1,hk.1.1.2⟩)⟩,⟨by (with_reducible repeat (first | apply Kd.V_alloc | apply Kd.V_drewN | apply Kd.V_drew));exact Kd.V_mono HO0_0.out (fun _ hk => ⟨hk.1.1.1,hk.1.1.2⟩)⟩,⟨by (with_reducible repeat (first | apply Kd.V_alloc | apply Kd.V_drewN | apply Kd.V_drew));exact Kd.V_mono HO0_2.out (fun _ hk => ⟨hk.1.1.1,hk.1.1.2⟩)⟩,⟨by (with_reducible repeat (first | refine blk_drewN ?_ _ | refine blk_drew ?_ | refine blk_alloc ?_ _));exact BK652.out⟩,⟨by repeat (first | (with_reducible first | exact HB.out | apply below_alloc | apply pw_below_drewN | apply below_drew1 | refine below_set ?_ GE652.out) | exact HB.out)⟩⟩
    ·
     replace c11:=Bool.eq_false_iff.mpr c11
     subst c11
     have H1:(sconcelaw07_RingReduces.j0 k l1 ((l1.length:Int) != 301) l0_0 a0_1 l0_2) = some r:=by rw [if_neg (show ¬ (false = true) by decide)] at H;exact H
     clear H
     have H:=H1
     clear H1
     have H':=Aside0.mk H
     clear H
     have hcz19_0:w7.cell? ⟨gb652,0,none⟩ = some (.slice A0_0 l0_0.length c0_0):=(blk_cell BK652.out 0).trans rfl
     have hcz19_1:w7.cell? ⟨gb652,1,none⟩ = some (.int .u64 a0_1):=(blk_cell BK652.out 1).trans rfl
     have hcz19_2:w7.cell? ⟨gb652,2,none⟩ = some (.slice A0_2 l0_2.length c0_2):=(blk_cell BK652.out 2).trans rfl
     have hfz19_0:=blk_frozen BK652.out 0
     have hfz19_1:=blk_frozen BK652.out 1
     have hfz19_2:=blk_frozen BK652.out 2
     go_wp2_with (first | ((with_reducible refine gate_dst (N:=15) rfl ?_);(try (refine gate_guard (by rfl) ?_;dsimp only));refine Kd.N_lit (Kd.slice 24 (Kd.int .u64)) _ 23 ?hg (N':=15) ?hd (xs:=([l0_0,l0_2]:List (List Int))) (inner:=[.slice A0_0 l0_0.length c0_0,.slice A0_2 l0_2.length c0_2]) (ok:=(fun k_ => ((P0_0_ k_∨P0_2_ k_∨P1_ k_)∨w.heap.size≤k_)∧k_≠gb652)) (okp:=(fun k_ => ((P0_0_ k_∨P0_2_ k_∨P1_ k_)∨w.heap.size≤k_)∧k_≠gb652)) ?hr ?hp (fun _ hk => hk) ((show ∀ k_,w7.heap.size≤k_→(fun k_ => ((P0_0_ k_∨P0_2_ k_∨P1_ k_)∨w.heap.size≤k_)∧k_≠gb652) k_ from fun k_ hk => ⟨(.inr (Nat.le_trans (below_size (vBg HB.out GE652.out)) hk)),Kd.freshB (g:=gb652) (o:=.cells #[.slice A0_0 l0_0.length c0_0,.int .u64 a0_1,.slice A0_2 l0_2.length c0_2] 26 (0,0)) (vK BK652.out) k_ hk⟩) _ (Nat.le_refl _)) (Below.refl _ _) (Nat.le_refl _) (by simp) ?_;(case hd => rfl);(case hg => rfl);(case hr => first | (go_simp;done) | (go_simp;rfl));(case hp => exact (Reps.one (show Kd.FK (Kd.slice 24 (Kd.int .u64)) _ _ l0_0 [.slice A0_0 l0_0.length c0_0] from (Kd.FK_slice_mk (Kd.V_reads' (Kd.V_mono (ok':=(fun k_ => ((P0_0_ k_∨P0_2_ k_∨P1_ k_)∨w.heap.size≤k_)∧k_≠gb652)) (HO0_0.out) (fun k_ hk => ⟨hk.1,hk.2⟩))).2.1 (Kd.V_F (by (with_reducible repeat (first | apply Kd.V_alloc | apply Kd.V_drewN | apply Kd.V_drew));exact (Kd.V_mono (ok':=(fun k_ => ((P0_0_ k_∨P0_2_ k_∨P1_ k_)∨w.heap.size≤k_)∧k_≠gb652)) (HO0_0.out) (fun k_ hk => ⟨hk.1,hk.2⟩)))))) (Reps.one (show Kd.FK (Kd.slice 24 (Kd.int .u64)) _ _ l0_2 [.slice A0_2 l0_2.length c0_2] from (Kd.FK_slice_mk (Kd.V_reads' (Kd.V_mono (ok':=(fun k_ => ((P0_0_ k_∨P0_2_ k_∨P1_ k_)∨w.heap.size≤k_)∧k_≠gb652)) (HO0_2.out) (fun k_ hk => ⟨hk.1,hk.2⟩))).2.1 (Kd.V_F (by (with_reducible repeat (first | apply Kd.V_alloc | apply Kd.V_drewN | apply Kd.V_drew));exact (Kd.V_mono (ok':=(fun k_ => ((P0_0_ k_∨P0_2_ k_∨P1_ k_)∨w.heap.size≤k_)∧k_≠gb652)) (HO0_2.out) (fun k_ hk => ⟨hk.1,hk.2⟩)))))) (Reps.none _ _))));intro v655 w20 ho21 hb hg_ hnew_;clear hg_ hnew_;(first | rw [← Ny654.out] at ho21 | (simp only [Int.reduceToNat] at ho21;rw [← Ny654.out] at ho21));have n0_:=Aside0.mk (Kd.V_elder' (vV HO0_0.out) (Kd.N_base ho21) hb);have n1_:=Aside0.mk (Kd.V_elder' (vV HO0_2.out) (Kd.N_base ho21) hb);have n2_:=Aside0.mk (Kd.V_elder' (vV HO1.out) (Kd.N_base ho21) hb);have n3_:=Aside0.mk (Kd.N_lower ho21 (below_size (vBg HB.out GE652.out)));have n4_:=Aside0.mk (blk_below (g:=gb652) (o:=.cells #[.slice A0_0 l0_0.length c0_0,.int .u64 a0_1,.slice A0_2 l0_2.length c0_2] 26 (0,0)) (vK BK652.out) hb);have n5_:=Aside0.mk (below_step (vBg HB.out GE652.out) hb);clear HO0_0;clear HO0_2;clear HO1;clear BK652;clear HB;have HO0_0:=n0_;have HO0_2:=n1_;have HO1:=n2_;have HO656:=n3_;have BK652:=n4_;have HB:=n5_;clear n0_ n1_ n2_ n3_ n4_ n5_;clear hb ho21;obtain ⟨Ao22,co22,eo22⟩:=Kd.N_slice HO656.out;subst eo22) | ((with_reducible refine gate_callee (f:=31) rfl ?_);refine goesL_ (some 16) rfl rfl Try.func31 (by kernel_rfl) rfl #[.slice Ao22 y654.length co22] rfl vA ?_;(with_reducible refine (sconcelaw05_Few.calls k _ _ y654 true _ ?side1 ?side2 A8.out).mono ?_);(case side1 => repeat (first | exact (Kd.N_reads' HO656.out).2.2 | (with_reducible refine Kd.C_alloc ?_ _) | (with_reducible refine Kd.C_drewN ?_ _) | (with_reducible refine Kd.C_drew ?_)));(case side2 => exact (Kd.N_reads' HO656.out).2.1);rintro e w' ⟨rfl,⟨nd,rfl⟩⟩;refine ⟨_,rfl,?_⟩) | ((with_reducible refine gate_dst (N:=20) rfl ?_);(try (refine gate_guard (by rfl) ?_;dsimp only));refine Kd.N_lit (Kd.slice 24 (Kd.int .u64)) _ 23 ?hg (N':=20) ?hd (xs:=([l1]:List (List Int))) (inner:=[.slice A1 l1.length c1]) (ok:=(fun k_ => ((P0_0_ k_∨P0_2_ k_∨P1_ k_)∨w.heap.size≤k_)∧some k_≠(.slice Ao22 y654.length co22:Value).ownBlock∧k_≠gb652)) (okp:=(fun k_ => ((P0_0_ k_∨P0_2_ k_∨P1_ k_)∨w.heap.size≤k_)∧some k_≠(.slice Ao22 y654.length co22:Value).ownBlock∧k_≠gb652)) ?hr ?hp (fun _ hk => hk) ((show ∀ k_,w20.heap.size≤k_→(fun k_ => ((P0_0_ k_∨P0_2_ k_∨P1_ k_)∨w.heap.size≤k_)∧some k_≠(.slice Ao22 y654.length co22:Value).ownBlock∧k_≠gb652) k_ from fun k_ hk => ⟨(.inr (Nat.le_trans (below_size (vBg HB.out GE652.out)) hk)),Kd.fresh' (Kd.N_lt (by (with_reducible repeat (first | apply Kd.N_alloc | apply Kd.N_drewN | apply Kd.N_drew));exact HO656.out)) k_ hk,Kd.freshB (g:=gb652) (o:=.cells #[.slice A0_0 l0_0.length c0_0,.int .u64 a0_1,.slice A0_2 l0_2.length c0_2] 26 (0,0)) (vK BK652.out) k_ hk⟩) _ (Nat.le_refl _)) (Below.refl _ _) (Nat.le_refl _) (by simp) ?_;(case hd => rfl);(case hg => rfl);(case hr => first | (go_simp;done) | (go_simp;rfl));(case hp => exact (Reps.one (show Kd.FK (Kd.slice 24 (Kd.int .u64)) _ _ l1 [.slice A1 l1.length c1] from (Kd.FK_slice_mk (Kd.V_reads' (Kd.V_mono (ok':=(fun k_ => ((P0_0_ k_∨P0_2_ k_∨P1_ k_)∨w.heap.size≤k_)∧some k_≠(.slice Ao22 y654.length co22:Value).ownBlock∧k_≠gb652)) (HO1.out) (fun k_ hk => ⟨hk.1.1,⟨hk.2,hk.1.2⟩⟩))).2.1 (Kd.V_F (by (with_reducible repeat (first | apply Kd.V_alloc | apply Kd.V_drewN | apply Kd.V_drew));exact (Kd.V_mono (ok':=(fun k_ => ((P0_0_ k_∨P0_2_ k_∨P1_ k_)∨w.heap.size≤k_)∧some k_≠(.slice Ao22 y654.length co22:Value).ownBlock∧k_≠gb652)) (HO1.out) (fun k_ hk => ⟨hk.1.1,⟨hk.2,hk.1.2⟩⟩)))))) (Reps.none _ _)));intro v659 w23 ho24 hb hg_ hnew_;clear hg_ hnew_;(first | rw [← Ny658.out] at ho24 | (simp only [Int.reduceToNat] at ho24;rw [← Ny658.out] at ho24));have n0_:=Aside0.mk (Kd.V_elder' (vV HO0_0.out) (Kd.N_base ho24) hb);have n1_:=Aside0.mk (Kd.V_elder' (vV HO0_2.out) (Kd.N_base ho24) hb);have n2_:=Aside0.mk (Kd.V_elder' (vV HO1.out) (Kd.N_base ho24) hb);have n3_:=Aside0.mk (Kd.N_elder' (by (with_reducible repeat (first | apply Kd.N_alloc | apply Kd.N_drewN | apply Kd.N_drew));exact HO656.out) (Kd.N_base ho24) hb);have n4_:=Aside0.mk (Kd.N_lower ho24 (below_size (vBg HB.out GE652.out)));have n5_:=Aside0.mk (blk_below (g:=gb652) (o:=.cells #[.slice A0_0 l0_0.length c0_0,.int .u64 a0_1,.slice A0_2 l0_2.length c0_2] 26 (0,0)) (vK BK652.out) hb);have n6_:=Aside0.mk (below_step (vBg HB.out GE652.out) hb);clear HO0_0;clear HO0_2;clear HO1;clear HO656;clear BK652;clear HB;have HO0_0:=n0_;have HO0_2:=n1_;have HO1:=n2_;have HO656:=n3_;have HO660:=n4_;have BK652:=n5_;have HB:=n6_;clear n0_ n1_ n2_ n3_ n4_ n5_ n6_;clear hb ho24;obtain ⟨Ao25,co25,eo25⟩:=Kd.N_slice HO660.out;subst eo25) | (go_at_call 31;(with_reducible refine (sconcelaw05_Few.calls k _ _ y658 false _ ?side1 ?side2 A10.out).mono ?_);(case side1 => repeat (first | exact (Kd.N_reads' HO660.out).2.2 | (with_reducible refine Kd.C_alloc ?_ _) | (with_reducible refine Kd.C_drewN ?_ _) | (with_reducible refine Kd.C_drew ?_)));(case side2 => exact (Kd.N_reads' HO660.out).2.1);rintro e w' ⟨rfl,⟨nd,rfl⟩⟩))
     go_meet
     case rel => exact ⟨_,(((l1.length:Int) != 301)),(by first | rfl | (simp;done) | (simp [*];done)),H',⟨by first | omega | exact Nat.le_refl _⟩,⟨by (with_reducible repeat (first | apply Kd.V_alloc | apply Kd.V_drewN | apply Kd.V_drew));exact Kd.V_mono HO1.out (fun _ hk => ⟨hk.1.1.1,hk.1.1.2⟩)⟩,⟨by (with_reducible repeat (first | apply Kd.V_alloc | apply Kd.V_drewN | apply Kd.V_drew));exact Kd.V_mono HO0_0.out (fun _ hk => ⟨hk.1.1.1,hk.1.1.2⟩)⟩,⟨by (with_reducible repeat (first | apply Kd.V_alloc | apply Kd.V_drewN | apply Kd.V_drew));exact Kd.V_mono HO0_2.out (fun _ hk => ⟨hk.1.1.1,hk.1.1.2⟩)⟩,⟨by (with_reducible repeat (first | refine blk_drewN ?_ _ | refine blk_drew ?_ | refine blk_alloc ?_ _));exact BK652.out⟩,⟨by repeat (first | (with_reducible first | exact HB.out | apply below_alloc | apply pw_below_drewN | apply below_drew1 | refine below_set ?_ GE652.out) | exact HB.out)⟩⟩
   ·
    replace c9:=Bool.eq_false_iff.mpr c9
    subst c9
    have H1:(sconcelaw07_RingReduces.j0 k l1 true l0_0 a0_1 l0_2) = some r:=by rw [if_neg (show ¬ (false = true) by decide)] at H;exact H
    clear H
    have H:=H1
    clear H1
    have H':=Aside0.mk H
    clear H
    have hcz26_0:w7.cell? ⟨gb652,0,none⟩ = some (.slice A0_0 l0_0.length c0_0):=(blk_cell BK652.out 0).trans rfl
    have hcz26_1:w7.cell? ⟨gb652,1,none⟩ = some (.int .u64 a0_1):=(blk_cell BK652.out 1).trans rfl
    have hcz26_2:w7.cell? ⟨gb652,2,none⟩ = some (.slice A0_2 l0_2.length c0_2):=(blk_cell BK652.out 2).trans rfl
    have hfz26_0:=blk_frozen BK652.out 0
    have hfz26_1:=blk_frozen BK652.out 1
    have hfz26_2:=blk_frozen BK652.out 2
    go_wp2_with (first | ((with_reducible refine gate_dst (N:=15) rfl ?_);(try (refine gate_guard (by rfl) ?_;dsimp only));refine Kd.N_lit (Kd.slice 24 (Kd.int .u64)) _ 23 ?hg (N':=15) ?hd (xs:=([l0_0,l0_2]:List (List Int))) (inner:=[.slice A0_0 l0_0.length c0_0,.slice A0_2 l0_2.length c0_2]) (ok:=(fun k_ => ((P0_0_ k_∨P0_2_ k_∨P1_ k_)∨w.heap.size≤k_)∧k_≠gb652)) (okp:=(fun k_ => ((P0_0_ k_∨P0_2_ k_∨P1_ k_)∨w.heap.size≤k_)∧k_≠gb652)) ?hr ?hp (fun _ hk => hk) ((show ∀ k_,w7.heap.size≤k_→(fun k_ => ((P0_0_ k_∨P0_2_ k_∨P1_ k_)∨w.heap.size≤k_)∧k_≠gb652) k_ from fun k_ hk => ⟨(.inr (Nat.le_trans (below_size (vBg HB.out GE652.out)) hk)),Kd.freshB (g:=gb652) (o:=.cells #[.slice A0_0 l0_0.length c0_0,.int .u64 a0_1,.slice A0_2 l0_2.length c0_2] 26 (0,0)) (vK BK652.out) k_ hk⟩) _ (Nat.le_refl _)) (Below.refl _ _) (Nat.le_refl _) (by simp) ?_;(case hd => rfl);(case hg => rfl);(case hr => first | (go_simp;done) | (go_simp;rfl));(case hp => exact (Reps.one (show Kd.FK (Kd.slice 24 (Kd.int .u64)) _ _ l0_0 [.slice A0_0 l0_0.length c0_0] from (Kd.FK_slice_mk (Kd.V_reads' (Kd.V_mono (ok':=(fun k_ => ((P0_0_ k_∨P0_2_ k_∨P1_ k_)∨w.heap.size≤k_)∧k_≠gb652)) (HO0_0.out) (fun k_ hk => ⟨hk.1,hk.2⟩))).2.1 (Kd.V_F (by (with_reducible repeat (first | apply Kd.V_alloc | apply Kd.V_drewN | apply Kd.V_drew));exact (Kd.V_mono (ok':=(fun k_ => ((P0_0_ k_∨P0_2_ k_∨P1_ k_)∨w.heap.size≤k_)∧k_≠gb652)) (HO0_0.out) (fun k_ hk => ⟨hk.1,hk.2⟩)))))) (Reps.one (show Kd.FK (Kd.slice 24 (Kd.int .u64)) _ _ l0_2 [.slice A0_2 l0_2.length c0_2] from (Kd.FK_slice_mk (Kd.V_reads' (Kd.V_mono (ok':=(fun k_ => ((P0_0_ k_∨P0_2_ k_∨P1_ k_)∨w.heap.size≤k_)∧k_≠gb652)) (HO0_2.out) (fun k_ hk => ⟨hk.1,hk.2⟩))).2.1 (Kd.V_F (by (with_reducible repeat (first | apply Kd.V_alloc | apply Kd.V_drewN | apply Kd.V_drew));exact (Kd.V_mono (ok':=(fun k_ => ((P0_0_ k_∨P0_2_ k_∨P1_ k_)∨w.heap.size≤k_)∧k_≠gb652)) (HO0_2.out) (fun k_ hk => ⟨hk.1,hk.2⟩)))))) (Reps.none _ _))));intro v655 w27 ho28 hb hg_ hnew_;clear hg_ hnew_;(first | rw [← Ny654.out] at ho28 | (simp only [Int.reduceToNat] at ho28;rw [← Ny654.out] at ho28));have n0_:=Aside0.mk (Kd.V_elder' (vV HO0_0.out) (Kd.N_base ho28) hb);have n1_:=Aside0.mk (Kd.V_elder' (vV HO0_2.out) (Kd.N_base ho28) hb);have n2_:=Aside0.mk (Kd.V_elder' (vV HO1.out) (Kd.N_base ho28) hb);have n3_:=Aside0.mk (Kd.N_lower ho28 (below_size (vBg HB.out GE652.out)));have n4_:=Aside0.mk (blk_below (g:=gb652) (o:=.cells #[.slice A0_0 l0_0.length c0_0,.int .u64 a0_1,.slice A0_2 l0_2.length c0_2] 26 (0,0)) (vK BK652.out) hb);have n5_:=Aside0.mk (below_step (vBg HB.out GE652.out) hb);clear HO0_0;clear HO0_2;clear HO1;clear BK652;clear HB;have HO0_0:=n0_;have HO0_2:=n1_;have HO1:=n2_;have HO656:=n3_;have BK652:=n4_;have HB:=n5_;clear n0_ n1_ n2_ n3_ n4_ n5_;clear hb ho28;obtain ⟨Ao29,co29,eo29⟩:=Kd.N_slice HO656.out;subst eo29) | ((with_reducible refine gate_callee (f:=31) rfl ?_);refine goesL_ (some 16) rfl rfl Try.func31 (by kernel_rfl) rfl #[.slice Ao29 y654.length co29] rfl vA ?_;(with_reducible refine (sconcelaw05_Few.calls k _ _ y654 false _ ?side1 ?side2 A8.out).mono ?_);(case side1 => repeat (first | exact (Kd.N_reads' HO656.out).2.2 | (with_reducible refine Kd.C_alloc ?_ _) | (with_reducible refine Kd.C_drewN ?_ _) | (with_reducible refine Kd.C_drew ?_)));(case side2 => exact (Kd.N_reads' HO656.out).2.1);rintro e w' ⟨rfl,⟨nd,rfl⟩⟩;refine ⟨_,rfl,?_⟩))
    go_meet
    case rel => exact ⟨_,(true),(by first | rfl | (simp;done) | (simp [*];done)),H',⟨by first | omega | exact Nat.le_refl _⟩,⟨by (with_reducible repeat (first | apply Kd.V_alloc | apply Kd.V_drewN | apply Kd.V_drew));exact Kd.V_mono HO1.out (fun _ hk => ⟨hk.1.1,hk.1.2⟩)⟩,⟨by (with_reducible repeat (first | apply Kd.V_alloc | apply Kd.V_drewN | apply Kd.V_drew));exact Kd.V_mono HO0_0.out (fun _ hk => ⟨hk.1.1,hk.1.2⟩)⟩,⟨by (with_reducible repeat (first | apply Kd.V_alloc | apply Kd.V_drewN | apply Kd.V_drew));exact Kd.V_mono HO0_2.out (fun _ hk => ⟨hk.1.1,hk.1.2⟩)⟩,⟨by (with_reducible repeat (first | refine blk_drewN ?_ _ | refine blk_drew ?_ | refine blk_alloc ?_ _));exact BK652.out⟩,⟨by repeat (first | (with_reducible first | exact HB.out | apply below_alloc | apply pw_below_drewN | apply below_drew1 | refine below_set ?_ GE652.out) | exact HB.out)⟩⟩
  case rest =>
   clear HC5
   try clear c1
   try clear p2
   try clear c3
   try clear c4
   try clear c6
   try clear c9
   try clear c11
   try clear c16
   try clear hcz12_0
   try clear hcz12_1
   try clear hcz12_2
   try clear hcz19_0
   try clear hcz19_1
   try clear hcz19_2
   try clear hcz26_0
   try clear hcz26_1
   try clear hcz26_2
   try clear hfz12_0
   try clear hfz12_1
   try clear hfz12_2
   try clear hfz19_0
   try clear hfz19_1
   try clear hfz19_2
   try clear hfz26_0
   try clear hfz26_1
   try clear hfz26_2
   obtain ⟨kq,x28_4,rfl,HA,HJ4,HO_1,HO_653000,HO_653002,BK652,HB⟩:=hcut
   cases kq with
   | zero => exact absurd HA.out (by simp [sconcelaw07_RingReduces.j0])
   | succ kj4 =>
    have H:=HA.out
    clear HA
    simp only [sconcelaw07_RingReduces.j0] at H
    by_cases c30:x28_4 = true
    ·
     subst c30
     have H1:(some true) = some r:=by rw [if_pos rfl] at H;exact H
     clear H
     have H:=H1
     clear H1
     obtain rfl:=Option.some.inj H
     go_wp2
     go_ret
     exact ⟨by first | rfl | (simp [errW_none,errW_some] <;> rfl) | (simp [*,errW_none,errW_some] <;> rfl),by repeat (first | (with_reducible first | exact HB.out | apply below_alloc | apply pw_below_drewN | apply below_drew1 | refine below_set ?_ GE652.out) | exact HB.out)⟩
    ·
     replace c30:=Bool.eq_false_iff.mpr c30
     subst c30
     have H1:((ring_Reduce.f kj4 l0_0 a0_1 l0_2 l1).bind fun bt662 => ((sconceref07_Reduce.f kj4 l0_0 a0_1 l0_2 l1).bind fun bt666 => ((sconcelaw07_as.f kj4 bt662.1 bt662.2 bt666.1 bt666.2).bind fun t670 => (some t670)))) = some r:=by rw [if_neg (show ¬ (false = true) by decide)] at H;exact H
     clear H
     have H:=H1
     clear H1
     replace H:=Option.bind_eq_some_iff.mp H
     obtain ⟨⟨t662,t665⟩,A310,H⟩:=H
     replace H:((sconceref07_Reduce.f kj4 l0_0 a0_1 l0_2 l1).bind fun bt666 => ((sconcelaw07_as.f kj4 t662 t665 bt666.1 bt666.2).bind fun t670 => (some t670))) = some r:=H
     have A31:=Aside0.mk A310
     clear A310
     replace H:=Option.bind_eq_some_iff.mp H
     obtain ⟨⟨t666,t669⟩,A320,H⟩:=H
     replace H:((sconcelaw07_as.f kj4 t662 t665 t666 t669).bind fun t670 => (some t670)) = some r:=H
     have A32:=Aside0.mk A320
     clear A320
     replace H:=Option.bind_eq_some_iff.mp H
     obtain ⟨t670,A330,H⟩:=H
     replace H:(some t670) = some r:=H
     have A33:=Aside0.mk A330
     clear A330
     obtain rfl:=Option.some.inj H
     have hcz34_0:wc.cell? ⟨gb652,0,none⟩ = some (.slice A0_0 l0_0.length c0_0):=(blk_cell BK652.out 0).trans rfl
     have hcz34_1:wc.cell? ⟨gb652,1,none⟩ = some (.int .u64 a0_1):=(blk_cell BK652.out 1).trans rfl
     have hcz34_2:wc.cell? ⟨gb652,2,none⟩ = some (.slice A0_2 l0_2.length c0_2):=(blk_cell BK652.out 2).trans rfl
     have hfz34_0:=blk_frozen BK652.out 0
     have hfz34_1:=blk_frozen BK652.out 1
     have hfz34_2:=blk_frozen BK652.out 2
     go_wp2_with (first | ((with_reducible refine gate_callee (f:=32) rfl ?_);refine goesL_ (some 32) rfl rfl Try.func32 (by kernel_rfl) rfl #[.pointer none,.agg #[.slice A0_0 l0_0.length c0_0,.int .u64 a0_1,.slice A0_2 l0_2.length c0_2],.slice A1 l1.length c1] rfl vA ?_;(with_reducible refine (ring_Reduce.calls kj4  _ _ l0_0 a0_1 _ _ l0_2 _ _ l1 t662 t665 _ ?side1 ?side2 ?side3 ?side4 ?side5 ?side6 A31.out).mono ?_);(case side1 => repeat (first | exact (Kd.V_reads' HO_653000.out).2.2 | (with_reducible refine Kd.C_alloc ?_ _) | (with_reducible refine Kd.C_drewN ?_ _) | (with_reducible refine Kd.C_drew ?_)));(case side2 => exact (Kd.V_reads' HO_653000.out).2.1);(case side3 => repeat (first | exact (Kd.V_reads' HO_653002.out).2.2 | (with_reducible refine Kd.C_alloc ?_ _) | (with_reducible refine Kd.C_drewN ?_ _) | (with_reducible refine Kd.C_drew ?_)));(case side4 => exact (Kd.V_reads' HO_653002.out).2.1);(case side5 => repeat (first | exact (Kd.V_reads' HO_1.out).2.2 | (with_reducible refine Kd.C_alloc ?_ _) | (with_reducible refine Kd.C_drewN ?_ _) | (with_reducible refine Kd.C_drew ?_)));(case side6 => exact (Kd.V_reads' HO_1.out).2.1);rintro e w35 ⟨v663,rfl,ho0,hb⟩;refine ⟨_,rfl,?_⟩;have n0_:=Aside0.mk (Kd.V_elder' (vV HO_1.out) (Kd.R_base ho0) hb);have n1_:=Aside0.mk (Kd.V_elder' (vV HO_653000.out) (Kd.R_base ho0) hb);have n2_:=Aside0.mk (Kd.V_elder' (vV HO_653002.out) (Kd.R_base ho0) hb);have n3_:=Aside0.mk (Kd.R_lower (Kd.R_newM (M:=fun k_ => (w.heap.size≤k_)) ho0 (below_size (vBg HB.out GE652.out)) (fun k_ h_ => h_)) (below_size (vBg HB.out GE652.out)));have n4_:=Aside0.mk (blk_below (g:=gb652) (o:=.cells #[.slice A0_0 l0_0.length c0_0,.int .u64 a0_1,.slice A0_2 l0_2.length c0_2] 26 (0,0)) (vK BK652.out) hb);have n5_:=Aside0.mk (below_step (vBg HB.out GE652.out) hb);clear HO_1;clear HO_653000;clear HO_653002;clear BK652;clear HB;have HO_1:=n0_;have HO_653000:=n1_;have HO_653002:=n2_;have HO664:=n3_;have BK652:=n4_;have HB:=n5_;clear n0_ n1_ n2_ n3_ n4_ n5_;(try clear hb);(try clear hb2);(try clear hk);(try clear hi);(try clear ho0);have hcz36_0:w35.cell? ⟨gb652,0,none⟩ = some (.slice A0_0 l0_0.length c0_0):=(blk_cell BK652.out 0).trans rfl;have hcz36_1:w35.cell? ⟨gb652,1,none⟩ = some (.int .u64 a0_1):=(blk_cell BK652.out 1).trans rfl;have hcz36_2:w35.cell? ⟨gb652,2,none⟩ = some (.slice A0_2 l0_2.length c0_2):=(blk_cell BK652.out 2).trans rfl;have hfz36_0:=blk_frozen BK652.out 0;have hfz36_1:=blk_frozen BK652.out 1;have hfz36_2:=blk_frozen BK652.out 2) | ((with_reducible refine gate_callee (f:=33) rfl ?_);refine goesL_ (some 38) rfl rfl Try.func33 (by kernel_rfl) rfl #[.agg #[.slice A0_0 l0_0.length c0_0,.int .u64 a0_1,.slice A0_2 l0_2.length c0_2],.slice A1 l1.length c1] rfl vA ?_;(with_reducible refine (sconceref07_Reduce.calls kj4 _ _ l0_0 a0_1 _ _ l0_2 _ _ l1 t666 t669 _ ?side1 ?side2 ?side3 ?side4 ?side5 ?side6 A32.out).mono ?_);(case side1 => repeat (first | exact (Kd.V_reads' HO_653000.out).2.2 | (with_reducible refine Kd.C_alloc ?_ _) | (with_reducible refine Kd.C_drewN ?_ _) | (with_reducible refine Kd.C_drew ?_)));(case side2 => exact (Kd.V_reads' HO_653000.out).2.1);(case side3 => repeat (first | exact (Kd.V_reads' HO_653002.out).2.2 | (with_reducible refine Kd.C_alloc ?_ _) | (with_reducible refine Kd.C_drewN ?_ _) | (with_reducible refine Kd.C_drew ?_)));(case side4 => exact (Kd.V_reads' HO_653002.out).2.1);(case side5 => repeat (first | exact (Kd.V_reads' HO_1.out).2.2 | (with_reducible refine Kd.C_alloc ?_ _) | (with_reducible refine Kd.C_drewN ?_ _) | (with_reducible refine Kd.C_drew ?_)));(case side6 => exact (Kd.V_reads' HO_1.out).2.1);rintro e w37 ⟨v667,rfl,ho0,hb⟩;refine ⟨_,rfl,?_⟩;have n0_:=Aside0.mk (Kd.V_elder' (vV HO_1.out) (Kd.R_base ho0) hb);have n1_:=Aside0.mk (Kd.V_elder' (vV HO_653000.out) (Kd.R_base ho0) hb);have n2_:=Aside0.mk (Kd.V_elder' (vV HO_653002.out) (Kd.R_base ho0) hb);have n3_:=Aside0.mk (Kd.R_elder' (vR HO664.out) (Kd.R_base ho0) hb);have n4_:=Aside0.mk (Kd.R_lower (Kd.R_new' (Kd.R_newM (M:=fun k_ => (w.heap.size≤k_)) ho0 (below_size (vBg HB.out GE652.out)) (fun k_ h_ => h_)) (Kd.R_lt (vR HO664.out))) (below_size (vBg HB.out GE652.out)));have n5_:=Aside0.mk (blk_below (g:=gb652) (o:=.cells #[.slice A0_0 l0_0.length c0_0,.int .u64 a0_1,.slice A0_2 l0_2.length c0_2] 26 (0,0)) (vK BK652.out) hb);have n6_:=Aside0.mk (below_step (vBg HB.out GE652.out) hb);clear HO_1;clear HO_653000;clear HO_653002;clear HO664;clear BK652;clear HB;have HO_1:=n0_;have HO_653000:=n1_;have HO_653002:=n2_;have HO664:=n3_;have HO668:=n4_;have BK652:=n5_;have HB:=n6_;clear n0_ n1_ n2_ n3_ n4_ n5_ n6_;(try clear hb);(try clear hb2);(try clear hk);(try clear hi);(try clear ho0);obtain ⟨Ao38,co38,eo38⟩:=Kd.R_slice HO664.out;subst eo38;obtain ⟨Ao39,co39,eo39⟩:=Kd.R_slice HO668.out;subst eo39) | ((with_reducible refine gate_callee (f:=20) rfl ?_);refine goesL_ (some 45) rfl rfl Try.func20 (by kernel_rfl) rfl #[.slice Ao38 t662.length co38,.int .i64 t665,.slice Ao39 t666.length co39,.int .i64 t669] rfl vA ?_;(with_reducible refine (sconcelaw07_as.calls kj4 _ _ t662 t665 _ _ t666 t669 t670 _ ?side1 ?side2 ?side3 ?side4 A33.out).mono ?_);(case side1 => repeat (first | exact (Kd.R_reads' HO664.out).2.2 | (with_reducible refine Kd.C_alloc ?_ _) | (with_reducible refine Kd.C_drewN ?_ _) | (with_reducible refine Kd.C_drew ?_)));(case side2 => exact (Kd.R_reads' HO664.out).2.1);(case side3 => repeat (first | exact (Kd.R_reads' HO668.out).2.2 | (with_reducible refine Kd.C_alloc ?_ _) | (with_reducible refine Kd.C_drewN ?_ _) | (with_reducible refine Kd.C_drew ?_)));(case side4 => exact (Kd.R_reads' HO668.out).2.1);rintro e w' ⟨rfl,⟨nd,rfl⟩⟩;refine ⟨_,rfl,?_⟩))
     go_ret
     exact ⟨by first | rfl | (simp [errW_none,errW_some] <;> rfl) | (simp [*,errW_none,errW_some] <;> rfl),by repeat (first | (with_reducible first | exact HB.out | apply below_alloc | apply pw_below_drewN | apply below_drew1 | refine below_set ?_ GE652.out) | exact HB.out)⟩
 ·
  replace c4:=Bool.eq_false_iff.mpr c4
  subst c4
  have H1:(some false) = some r:=by rw [if_neg (show ¬ (false = true) by decide)] at H;exact H
  clear H
  have H:=H1
  clear H1
  obtain rfl:=Option.some.inj H
  go_enter Try.func6,Try.ntmps6
  go_wp2_with (first | ((with_reducible refine gate_dst (N:=2) rfl ?_);(try (refine gate_guard (by rfl) ?_;dsimp only));refine box_event ?hg (N:=2) ?hd (cs:=#[.slice A0_0 l0_0.length c0_0,.int .u64 a0_1,.slice A0_2 l0_2.length c0_2]) (t:=26) ?hr ?_;(case hd => rfl);(case hg => rfl);(case hr => first | (go_simp;done) | (go_simp;rfl));intro gb652 hg w40 hbox hb;have n0_:=Aside0.mk (Kd.V_below (Kd.V_elderB (vV HO0_0.out) gb652 (Nat.le_of_eq hg.symm)) hb);have n1_:=Aside0.mk (Kd.V_below (Kd.V_elderB (vV HO0_2.out) gb652 (Nat.le_of_eq hg.symm)) hb);have n2_:=Aside0.mk (Kd.V_below (Kd.V_elderB (vV HO1.out) gb652 (Nat.le_of_eq hg.symm)) hb);have n3_:=Aside0.mk (below_step (vB HB.out) hb);have n4_:=Aside0.mk (hbox);have n5_:=Aside0.mk ((by rw [hg];exact (below_size (vB HB.out)):w.heap.size≤gb652));have n6_:=Aside0.mk ((by rw [hg];exact (below_size (vB HB.out)):w.heap.size≤gb652));clear HO0_0;clear HO0_2;clear HO1;clear HB;have HO0_0:=n0_;have HO0_2:=n1_;have HO1:=n2_;have HB:=n3_;have BK652:=n4_;have GW652:=n5_;have GE652:=n6_;clear n0_ n1_ n2_ n3_ n4_ n5_ n6_;clear hb hbox hg) | ((with_reducible refine gate_callee (f:=16) rfl ?_);refine goesL_ (some 9) rfl rfl Try.func16 (by kernel_rfl) rfl #[] rfl vA ?_;(with_reducible refine (sconcelaw07_awake.calls k  false _ A3.out).mono ?_);rintro e w41 ⟨rfl,hb⟩;refine ⟨_,rfl,?_⟩;have n0_:=Aside0.mk (Kd.V_below (vV HO0_0.out) hb);have n1_:=Aside0.mk (Kd.V_below (vV HO0_2.out) hb);have n2_:=Aside0.mk (Kd.V_below (vV HO1.out) hb);have n3_:=Aside0.mk (blk_below (g:=gb652) (o:=.cells #[.slice A0_0 l0_0.length c0_0,.int .u64 a0_1,.slice A0_2 l0_2.length c0_2] 26 (0,0)) (vK BK652.out) hb);have n4_:=Aside0.mk (below_step (vBg HB.out GE652.out) hb);clear HO0_0;clear HO0_2;clear HO1;clear BK652;clear HB;have HO0_0:=n0_;have HO0_2:=n1_;have HO1:=n2_;have BK652:=n3_;have HB:=n4_;clear n0_ n1_ n2_ n3_ n4_;(try clear hb);(try clear hb2);(try clear hk);(try clear hi)))
  go_ret
  exact ⟨by first | rfl | (simp [errW_none,errW_some] <;> rfl) | (simp [*,errW_none,errW_some] <;> rfl),by repeat (first | (with_reducible first | exact HB.out | apply below_alloc | apply pw_below_drewN | apply below_drew1 | refine below_set ?_ GE652.out) | exact HB.out)⟩
end Go.Proofs.Ytonpekldcnankaa.X
