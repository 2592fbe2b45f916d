/- Texts of the walk and of the plain laws, laid together by a program: X42. -/
import Derived.Test.YtalfniohakahlaaZD0
import Derived.Test.YtalfniohakahlaaZD1
import Derived.Test.YtalfniohakahlaaZD2
import Derived.Test.YtalfniohakahlaaZD5
import Derived.Test.YtalfniohakahlaaZD4
import Derived.Test.YtalfniohakahlaaZD7
import Derived.Test.YtalfniohakahlaaZD3
import Derived.Test.YtalfniohakahlaaZD15
import Derived.Test.YtalfniohakahlaaZD34
import Derived.Test.YtalfniohakahlaaZD35
import Derived.Test.YtalfniohakahlaaZD36
import Derived.Test.YtalfniohakahlaaZD27
namespace Go.Proofs.Ytalfniohakahlaa.X
open Go.RowKit Go.Proofs.YtalfniohakahlaaW.PrintWords Go.Proofs.YtalfniohakahlaaW.PrintLast Go.Proofs.YtalfniohakahlaaW.PrintMore
attribute [local go_sem] max2_int min2_int max_two min_two max_three min_three max_four min_four
set_option linter.unusedVariables false
set_option linter.unusedSimpArgs false
def mont_Enter.f (k : Nat)  (l1_0 : List Int) (a1_1 : Int) (l1_2 : List Int) (l2 : List Int) : Option (List Int × Int) := (mont_Mul.f k l1_0 a1_1 l1_2 l2 l1_2).bind fun bt843 => (some (bt843.1, bt843.2))
set_option maxHeartbeats 8000000 in
set_option maxRecDepth 100000 in
theorem mont_Enter.calls (k : Nat)  (A1_0 : Option Addr) (c1_0 : Nat) (l1_0 : List Int) (a1_1 : Int) (A1_2 : Option Addr) (c1_2 : Nat) (l1_2 : List Int) (A2 : Option Addr) (c2 : Nat) (l2 : List Int) (r1 : List Int) (r2 : Int) (w : World) (hr1_0 : Kd.C (Kd.int .u64) w A1_0 l1_0.length l1_0) (hc1_0 : l1_0.length ≤ c1_0) (hr1_2 : Kd.C (Kd.int .u64) w A1_2 l1_2.length l1_2) (hc1_2 : l1_2.length ≤ c1_2) (hr2 : Kd.C (Kd.int .u64) w A2 l2.length l2) (hc2 : l2.length ≤ c2) (h : mont_Enter.f k l1_0 a1_1 l1_2 l2 = some (r1, r2)) :
  Calls Try.prog 44 #[.pointer none, .agg #[.slice A1_0 l1_0.length c1_0, .int .u64 a1_1, .slice A1_2 l1_2.length c1_2], .slice A2 l2.length c2] w fun e w' => ∃ v0_ : Value, e = .returned (.tuple #[v0_, .int .i64 r2]) ∧ Kd.R (Kd.int .u64) 37 w' w.heap.size (fun _ => True) v0_ r1 ∧ Below w.heap.size w w' := by
 have hu59 := Try.underlying59
 have HR1_0 := Aside0.mk hr1_0
 have HC1_0 := Aside0.mk hc1_0
 clear hr1_0 hc1_0
 have HR1_2 := Aside0.mk hr1_2
 have HC1_2 := Aside0.mk hc1_2
 clear hr1_2 hc1_2
 have HR2 := Aside0.mk hr2
 have HC2 := Aside0.mk hc2
 clear hr2 hc2
 have HB := Aside0.mk (Below.refl w.heap.size w)
 have H : ((mont_Mul.f k l1_0 a1_1 l1_2 l2 l1_2).bind fun bt843 => (some (bt843.1, bt843.2))) = some (r1, r2) := h
 clear h
 replace H := Option.bind_eq_some_iff.mp H
 obtain ⟨⟨t843, t846⟩, A40, H⟩ := H
 replace H : (some (t843, t846)) = some (r1, r2) := H
 have A4 := Aside0.mk A40
 clear A40
 simp only [Option.some.injEq, Prod.mk.injEq] at H
 obtain ⟨rfl, rfl⟩ := H
 go_enter Try.func44, Try.ntmps44
 go_wp2_with (first | ((with_reducible refine gate_dst (N := 4) rfl ?_); refine box_event ?hg (N := 4) ?hd (cs := #[.slice A1_0 l1_0.length c1_0, .int .u64 a1_1, .slice A1_2 l1_2.length c1_2]) (t := 59) ?hr ?_; (case hd => rfl); (case hg => rfl); (case hr => first | (go_simp; done) | (go_simp; rfl)); intro gb842 hg w5 hbox hb; have n0_ := Aside0.mk (below_step (vB HB.out) hb); have n1_ := Aside0.mk (hbox); have n2_ := Aside0.mk ((by rw [hg]; exact (below_size (vB HB.out)) : w.heap.size ≤ gb842)); have n3_ := Aside0.mk ((by rw [hg]; exact (below_size (vB HB.out)) : w.heap.size ≤ gb842)); clear HB; have HB := n0_; have BK842 := n1_; have GW842 := n2_; have GE842 := n3_; clear n0_ n1_ n2_ n3_; clear hb hbox hg; have hcz6_0 : w5.cell? ⟨gb842, 0, none⟩ = some (.slice A1_0 l1_0.length c1_0) := (blk_cell BK842.out 0).trans rfl; have hcz6_1 : w5.cell? ⟨gb842, 1, none⟩ = some (.int .u64 a1_1) := (blk_cell BK842.out 1).trans rfl; have hcz6_2 : w5.cell? ⟨gb842, 2, none⟩ = some (.slice A1_2 l1_2.length c1_2) := (blk_cell BK842.out 2).trans rfl; have hfz6_0 := blk_frozen BK842.out 0; have hfz6_1 := blk_frozen BK842.out 1; have hfz6_2 := blk_frozen BK842.out 2) | ((with_reducible refine gate_callee (f := 42) rfl ?_); refine goesL_ (some 13) rfl rfl Try.func42 (by kernel_rfl) rfl #[.pointer none, .agg #[.slice A1_0 l1_0.length c1_0, .int .u64 a1_1, .slice A1_2 l1_2.length c1_2], .slice A2 l2.length c2, .slice A1_2 l1_2.length c1_2] rfl vA ?_; (with_reducible refine (mont_Mul.calls k  _ _ l1_0 a1_1 _ _ l1_2 (fun k_ => k_ < w.heap.size) _ _ l2 (fun k_ => k_ < w.heap.size) _ _ l1_2 t843 t846 _ ?side1 ?side2 ?side3 ?side4 ?side5 ?side6 A4.out).mono ?_); (case side1 => repeat (first | exact (Kd.C_below HR1_0.out HB.out) | (with_reducible refine Kd.C_alloc ?_ _) | (with_reducible refine Kd.C_drewN ?_ _) | (with_reducible refine Kd.C_drew ?_))); (case side2 => exact HC1_0.out); (case side3 => repeat (first | exact (Kd.C_below HR1_2.out HB.out) | (with_reducible refine Kd.C_alloc ?_ _) | (with_reducible refine Kd.C_drewN ?_ _) | (with_reducible refine Kd.C_drew ?_))); (case side4 => exact HC1_2.out); (case side5 => exact Kd.V_mk HC2.out (Kd.F_below (Kd.C_F (Kd.heap_int .u64) HR2.out) (vBg HB.out GE842.out))); (case side6 => exact Kd.V_mk HC1_2.out (Kd.F_below (Kd.C_F (Kd.heap_int .u64) HR1_2.out) (vBg HB.out GE842.out))); rintro e w7 ⟨v844, rfl, ho0, hb⟩; refine ⟨_, rfl, ?_⟩; have n0_ := Aside0.mk (Kd.R_lower (Kd.R_mono (ok' := fun k_ => True) ho0 (fun _ hk_ => trivial)) (below_size (vBg HB.out GE842.out))); have n1_ := Aside0.mk (blk_below (g := gb842) (o := .cells #[.slice A1_0 l1_0.length c1_0, .int .u64 a1_1, .slice A1_2 l1_2.length c1_2] 59 (0, 0)) (vK BK842.out) hb); have n2_ := Aside0.mk (below_step (vBg HB.out GE842.out) hb); clear BK842; clear HB; have HO845 := n0_; have BK842 := n1_; have HB := n2_; clear n0_ n1_ n2_; (try clear hb); (try clear hb2); (try clear hk); (try clear hi); (try clear ho0)))
 go_ret2
 exact ⟨_, by first | rfl | (simp [errW_none, errW_some] <;> rfl) | (simp [*, errW_none, errW_some] <;> rfl), by (with_reducible repeat (first | apply Kd.R_alloc | apply Kd.R_drewN | apply Kd.R_drew)); exact HO845.out, by repeat (first | (with_reducible first | exact HB.out | apply below_alloc | apply pw_below_drewN | apply below_drew1 | refine below_set ?_ GE842.out) | exact HB.out)⟩
def mont_Leave.f (k : Nat)  (l1_0 : List Int) (a1_1 : Int) (l1_2 : List Int) (l2 : List Int) : Option (List Int × Int) := (mont_members.f k l1_0 a1_1 l1_2 (([l2] : List (List Int)))).bind fun t851 => (if t851 = true then ((nat_Word.f 1 (l1_0.length : Int)).bind fun t852 => ((mont_Product.f k l1_0 a1_1 l1_2 l2 t852).bind fun t855 => (some (t855, 0)))) else (some (([] : List Int), 1)))
def mont_Leave.T3 : Bool × List (List Nat × List Nat) := (true, [([], []), ([], []), ([], []), ([], []), ([3], [3]), ([4], [4]), ([5], [5]), ([0, 1, 2, 6, 6], [0, 1, 2, 6]), ([7, 7, 0, 1, 2, 3, 4, 5, 6, 7], [7]), ([8, 0, 1, 2, 3, 4, 5, 6, 7, 8], [])])
def mont_Leave.B3 : List Nat := [0, 0, 0, 0, 8, 24, 56, 127, 255, 511]
theorem mont_Leave.tab3 : rtab .any (opsOf Try.f45 3) = mont_Leave.T3 := by kernel_rfl
theorem mont_Leave.bits3 : waitsOk mont_Leave.T3.2 mont_Leave.B3 = true := by kernel_rfl
set_option maxHeartbeats 8000000 in
set_option maxRecDepth 100000 in
theorem mont_Leave.calls (k : Nat)  (A1_0 : Option Addr) (c1_0 : Nat) (l1_0 : List Int) (a1_1 : Int) (A1_2 : Option Addr) (c1_2 : Nat) (l1_2 : List Int) (P2_ : Nat → Prop) (A2 : Option Addr) (c2 : Nat) (l2 : List Int) (r1 : List Int) (r2 : Int) (w : World) (hr1_0 : Kd.C (Kd.int .u64) w A1_0 l1_0.length l1_0) (hc1_0 : l1_0.length ≤ c1_0) (hr1_2 : Kd.C (Kd.int .u64) w A1_2 l1_2.length l1_2) (hc1_2 : l1_2.length ≤ c1_2) (hs2 : Kd.V (Kd.int .u64) 37 w w.heap.size (fun k_ => P2_ k_) (.slice A2 l2.length c2) l2) (h : mont_Leave.f k l1_0 a1_1 l1_2 l2 = some (r1, r2)) :
  Calls Try.prog 45 #[.pointer none, .agg #[.slice A1_0 l1_0.length c1_0, .int .u64 a1_1, .slice A1_2 l1_2.length c1_2], .slice A2 l2.length c2] w fun e w' => ∃ v0_ : Value, e = .returned (.tuple #[v0_, .int .i64 r2]) ∧ Kd.R (Kd.int .u64) 37 w' w.heap.size (fun k_ => (w.heap.size ≤ k_)) v0_ r1 ∧ Below w.heap.size w w' := by
 have hu59 := Try.underlying59
 have HR1_0 := Aside0.mk hr1_0
 have HC1_0 := Aside0.mk hc1_0
 clear hr1_0 hc1_0
 have HR1_2 := Aside0.mk hr1_2
 have HC1_2 := Aside0.mk hc1_2
 clear hr1_2 hc1_2
 have HO2 := Aside0.mk (show Kd.V (Kd.int .u64) 37 w w.heap.size (fun k_ => (P2_ k_ ∨ w.heap.size ≤ k_)) (.slice A2 l2.length c2) l2 from Kd.V_mono hs2 (fun k_ hk => .inl hk))
 have HB := Aside0.mk (Below.refl w.heap.size w)
 have H : ((mont_members.f k l1_0 a1_1 l1_2 (([l2] : List (List Int)))).bind fun t851 => (if t851 = true then ((nat_Word.f 1 (l1_0.length : Int)).bind fun t852 => ((mont_Product.f k l1_0 a1_1 l1_2 l2 t852).bind fun t855 => (some (t855, 0)))) else (some (([] : List Int), 1)))) = some (r1, r2) := h
 clear h
 obtain ⟨y848, hy848⟩ : ∃ y_ : List (List Int), y_ = (([l2] : List (List Int))) := ⟨_, rfl⟩
 replace H : ((mont_members.f k l1_0 a1_1 l1_2 y848).bind fun t851 => (if t851 = true then ((nat_Word.f 1 (l1_0.length : Int)).bind fun t852 => ((mont_Product.f k l1_0 a1_1 l1_2 l2 t852).bind fun t855 => (some (t855, 0)))) else (some (([] : List Int), 1)))) = some (r1, r2) := by first | (rw [hy848]; with_reducible exact H) | (have H2_ := (Option.bind_some _ _).symm.trans H; rw [hy848]; with_reducible exact H2_) | (have H2_ := (Option.bind_some _ _).symm.trans H; with_reducible exact H2_) | with_reducible exact H | (rw [hy848]; exact H) | exact H
 have Ny848 := Aside0.mk hy848
 clear hy848
 replace H := Option.bind_eq_some_iff.mp H
 obtain ⟨t851, A40, H⟩ := H
 replace H : (if t851 = true then ((nat_Word.f 1 (l1_0.length : Int)).bind fun t852 => ((mont_Product.f k l1_0 a1_1 l1_2 l2 t852).bind fun t855 => (some (t855, 0)))) else (some (([] : List Int), 1))) = some (r1, r2) := H
 have A4 := Aside0.mk A40
 clear A40
 by_cases c5 : t851 = true
 ·
  subst c5
  have H1 : ((nat_Word.f 1 (l1_0.length : Int)).bind fun t852 => ((mont_Product.f k l1_0 a1_1 l1_2 l2 t852).bind fun t855 => (some (t855, 0)))) = some (r1, r2) := by rw [if_pos rfl] at H; exact H
  clear H
  have H := H1
  clear H1
  replace H := Option.bind_eq_some_iff.mp H
  obtain ⟨t852, A60, H⟩ := H
  replace H : ((mont_Product.f k l1_0 a1_1 l1_2 l2 t852).bind fun t855 => (some (t855, 0))) = some (r1, r2) := H
  have A6 := Aside0.mk A60
  clear A60
  replace H := Option.bind_eq_some_iff.mp H
  obtain ⟨t855, A70, H⟩ := H
  replace H : (some (t855, 0)) = some (r1, r2) := H
  have A7 := Aside0.mk A70
  clear A70
  simp only [Option.some.injEq, Prod.mk.injEq] at H
  obtain ⟨rfl, rfl⟩ := H
  go_enter Try.func45, Try.ntmps45
  try go_wp2_with (first | ((with_reducible refine gate_dst (N := 4) rfl ?_); refine box_event ?hg (N := 4) ?hd (cs := #[.slice A1_0 l1_0.length c1_0, .int .u64 a1_1, .slice A1_2 l1_2.length c1_2]) (t := 59) ?hr ?_; (case hd => rfl); (case hg => rfl); (case hr => first | (go_simp; done) | (go_simp; rfl)); intro gb847 hg w8 hbox hb; have n0_ := Aside0.mk (Kd.V_below (Kd.V_elderB (vV HO2.out) gb847 (Nat.le_of_eq hg.symm)) hb); have n1_ := Aside0.mk (below_step (vB HB.out) hb); have n2_ := Aside0.mk (hbox); have n3_ := Aside0.mk ((by rw [hg]; exact (below_size (vB HB.out)) : w.heap.size ≤ gb847)); have n4_ := Aside0.mk ((by rw [hg]; exact (below_size (vB HB.out)) : w.heap.size ≤ gb847)); clear HO2; clear HB; have HO2 := n0_; have HB := n1_; have BK847 := n2_; have GW847 := n3_; have GE847 := n4_; clear n0_ n1_ n2_ n3_ n4_; clear hb hbox hg; have hcz9_0 : w8.cell? ⟨gb847, 0, none⟩ = some (.slice A1_0 l1_0.length c1_0) := (blk_cell BK847.out 0).trans rfl; have hcz9_1 : w8.cell? ⟨gb847, 1, none⟩ = some (.int .u64 a1_1) := (blk_cell BK847.out 1).trans rfl; have hcz9_2 : w8.cell? ⟨gb847, 2, none⟩ = some (.slice A1_2 l1_2.length c1_2) := (blk_cell BK847.out 2).trans rfl; have hfz9_0 := blk_frozen BK847.out 0; have hfz9_1 := blk_frozen BK847.out 1; have hfz9_2 := blk_frozen BK847.out 2) | ((with_reducible refine gate_dst (N := 10) rfl ?_); refine Kd.N_lit (Kd.slice 37 (Kd.int .u64)) _ 23 ?hg (N' := 10) ?hd (xs := ([l2] : List (List Int))) (inner := [.slice A2 l2.length c2]) (ok := (fun k_ => (P2_ k_ ∨ w.heap.size ≤ k_) ∧ k_ ≠ gb847)) (okp := (fun k_ => (P2_ k_ ∨ w.heap.size ≤ k_) ∧ k_ ≠ gb847)) ?hr ?hp (fun _ hk => hk) ((show ∀ k_, w8.heap.size ≤ k_ → (fun k_ => (P2_ k_ ∨ w.heap.size ≤ k_) ∧ k_ ≠ gb847) k_ from fun k_ hk => ⟨(.inr (Nat.le_trans (below_size (vBg HB.out GE847.out)) hk)), Kd.freshB (g := gb847) (o := .cells #[.slice A1_0 l1_0.length c1_0, .int .u64 a1_1, .slice A1_2 l1_2.length c1_2] 59 (0, 0)) (vK BK847.out) k_ hk⟩) _ (Nat.le_refl _)) (Below.refl _ _) (Nat.le_refl _) (by simp) ?_; (case hd => rfl); (case hg => rfl); (case hr => first | (go_simp; done) | (go_simp; rfl)); (case hp => exact (Reps.one (show Kd.FK (Kd.slice 37 (Kd.int .u64)) _ _ l2 [.slice A2 l2.length c2] from (Kd.FK_slice_mk (Kd.V_reads' (Kd.V_mono (ok' := (fun k_ => (P2_ k_ ∨ w.heap.size ≤ k_) ∧ k_ ≠ gb847)) (HO2.out) (fun k_ hk => ⟨hk.1, hk.2⟩))).2.1 (Kd.V_F (by (with_reducible repeat (first | apply Kd.V_alloc | apply Kd.V_drewN | apply Kd.V_drew)); exact (Kd.V_mono (ok' := (fun k_ => (P2_ k_ ∨ w.heap.size ≤ k_) ∧ k_ ≠ gb847)) (HO2.out) (fun k_ hk => ⟨hk.1, hk.2⟩)))))) (Reps.none _ _))); intro v849 w10 ho11 hb hg_ hnew_; clear hg_ hnew_; (first | rw [← Ny848.out] at ho11 | (simp only [Int.reduceToNat] at ho11; rw [← Ny848.out] at ho11)); have n0_ := Aside0.mk (Kd.V_elder' (vV HO2.out) (Kd.N_base ho11) hb); have n1_ := Aside0.mk (Kd.N_lower ho11 (below_size (vBg HB.out GE847.out))); have n2_ := Aside0.mk (blk_below (g := gb847) (o := .cells #[.slice A1_0 l1_0.length c1_0, .int .u64 a1_1, .slice A1_2 l1_2.length c1_2] 59 (0, 0)) (vK BK847.out) hb); have n3_ := Aside0.mk (below_step (vBg HB.out GE847.out) hb); clear HO2; clear BK847; clear HB; have HO2 := n0_; have HO850 := n1_; have BK847 := n2_; have HB := n3_; clear n0_ n1_ n2_ n3_; clear hb ho11; obtain ⟨Ao12, co12, eo12⟩ := Kd.N_slice HO850.out; subst eo12) | ((with_reducible refine gate_callee (f := 81) rfl ?_); refine goesL_ (some 11) rfl rfl Try.func81 (by kernel_rfl) rfl #[.agg #[.slice A1_0 l1_0.length c1_0, .int .u64 a1_1, .slice A1_2 l1_2.length c1_2], .slice Ao12 y848.length co12] rfl vA ?_; (with_reducible refine (mont_members.calls k _ _ l1_0 a1_1 _ _ l1_2 _ _ y848 true _ ?side1 ?side2 ?side3 ?side4 ?side5 ?side6 A4.out).mono ?_); (case side1 => repeat (first | exact (Kd.C_below HR1_0.out HB.out) | (with_reducible refine Kd.C_alloc ?_ _) | (with_reducible refine Kd.C_drewN ?_ _) | (with_reducible refine Kd.C_drew ?_))); (case side2 => exact HC1_0.out); (case side3 => repeat (first | exact (Kd.C_below HR1_2.out HB.out) | (with_reducible refine Kd.C_alloc ?_ _) | (with_reducible refine Kd.C_drewN ?_ _) | (with_reducible refine Kd.C_drew ?_))); (case side4 => exact HC1_2.out); (case side5 => repeat (first | exact (Kd.N_reads' HO850.out).2.2 | (with_reducible refine Kd.C_alloc ?_ _) | (with_reducible refine Kd.C_drewN ?_ _) | (with_reducible refine Kd.C_drew ?_))); (case side6 => exact (Kd.N_reads' HO850.out).2.1); rintro e w13 ⟨rfl, hb⟩; refine ⟨_, rfl, ?_⟩; have n0_ := Aside0.mk (Kd.V_below (vV HO2.out) hb); have n1_ := Aside0.mk (Kd.N_below (by (with_reducible repeat (first | apply Kd.N_alloc | apply Kd.N_drewN | apply Kd.N_drew)); exact HO850.out) hb); have n2_ := Aside0.mk (blk_below (g := gb847) (o := .cells #[.slice A1_0 l1_0.length c1_0, .int .u64 a1_1, .slice A1_2 l1_2.length c1_2] 59 (0, 0)) (vK BK847.out) hb); have n3_ := Aside0.mk (below_step (vBg HB.out GE847.out) hb); clear HO2; clear HO850; clear BK847; clear HB; have HO2 := n0_; have HO850 := n1_; have BK847 := n2_; have HB := n3_; clear n0_ n1_ n2_ n3_; (try clear hb); (try clear hb2); (try clear hk); (try clear hi)))
  have n0_ := Aside0.mk (Kd.V_drew HO2.out)
  have n1_ := Aside0.mk (Kd.N_drew HO850.out)
  have n2_ := Aside0.mk (blk_drew BK847.out)
  have n3_ := Aside0.mk (below_drew1 HB.out)
  clear HO2
  clear HO850
  clear BK847
  clear HB
  have HO2 := n0_
  have HO850 := n1_
  have BK847 := n2_
  have HB := n3_
  clear n0_ n1_ n2_ n3_
  refine start_ (n := 10) (S := fun w' => w'.cell? ⟨gb847, 0, none⟩ = some (.slice A1_0 l1_0.length c1_0) ∧ w'.cell? ⟨gb847, 1, none⟩ = some (.int .u64 a1_1) ∧ w'.cell? ⟨gb847, 2, none⟩ = some (.slice A1_2 l1_2.length c1_2)) (ds := []) #[false, false, false, false, false, false, false, false, false, false] (by kernel_rfl) rfl rfl ⟨(blk_cell BK847.out 0).trans rfl, (blk_cell BK847.out 1).trans rfl, (blk_cell BK847.out 2).trans rfl⟩ (fun hHeld => ?_); refine with_tabW mont_Leave.tab3 mont_Leave.bits3 (fun HT_ HW_ => ?_)
  generalize w13.drew = w14 at HO2 HO850 BK847 HB hHeld ⊢
  refine pure_ (i := 0) (N := some 13) (v := ?_) (a' := ?_) #[true, false, false, false, false, false, false, false, false, false] rfl rfl (any_of HT_.out (by kernel_rfl)) (fun _ _ _ h => h) (Or.inl ⟨by rfl, ?_⟩) ?_ ?_
  rotate_left
  ·
   intro w'
   go_simp
   with_reducible rfl
  rotate_left
  ·
   simp only [Act.put, List.setIfInBounds_toArray, List.set_cons_zero, List.set_cons_succ, i64_w, i32_w]
   rfl
  refine pure_ (i := 2) (N := some 15) (v := ?_) (a' := ?_) #[true, false, true, false, false, false, false, false, false, false] rfl rfl (any_of HT_.out (by kernel_rfl)) (fun _ _ _ h => h) (Or.inl ⟨by rfl, ?_⟩) ?_ ?_
  rotate_left
  ·
   intro w'
   go_simp
   with_reducible rfl
  rotate_left
  ·
   simp only [Act.put, List.setIfInBounds_toArray, List.set_cons_zero, List.set_cons_succ, i64_w, i32_w]
   rfl
  refine pure_ (i := 3) (N := some 16) (v := ?_) (a' := ?_) #[true, false, true, true, false, false, false, false, false, false] rfl rfl (any_of HT_.out (by kernel_rfl)) (fun _ _ _ h => h) (Or.inl ⟨by rfl, ?_⟩) ?_ ?_
  rotate_left
  ·
   intro w'
   go_simp
   with_reducible rfl
  rotate_left
  ·
   simp only [Act.put, List.setIfInBounds_toArray, List.set_cons_zero, List.set_cons_succ, i64_w, i32_w]
   rfl
  refine take_ (i := 1) (N := some 14) (v := ?_) (a' := ?_) #[true, true, true, true, false, false, false, false, false, false] rfl rfl (take_ofW HT_.out HW_.out (by kernel_rfl)) (fun _ _ _ h => h) (Or.inl ⟨by rfl, ?_⟩) hHeld ?_ ?_
  rotate_left
  ·
   rintro w' ⟨s0, s1, s2⟩
   go_simp
   with_reducible rfl
  rotate_left
  ·
   simp only [Act.put, List.setIfInBounds_toArray, List.set_cons_zero, List.set_cons_succ, i64_w, i32_w]
   rfl
  refine take_ (i := 4) (N := some 17) (v := ?_) (a' := ?_) #[true, true, true, true, true, false, false, false, false, false] rfl rfl (take_ofW HT_.out HW_.out (by kernel_rfl)) (fun _ _ _ h => h) (Or.inl ⟨by rfl, ?_⟩) hHeld ?_ ?_
  rotate_left
  ·
   rintro w' ⟨s0, s1, s2⟩
   go_simp
   with_reducible rfl
  rotate_left
  ·
   simp only [Act.put, List.setIfInBounds_toArray, List.set_cons_zero, List.set_cons_succ, i64_w, i32_w]
   rfl
  refine pure_ (i := 5) (N := some 18) (v := ?_) (a' := ?_) #[true, true, true, true, true, true, false, false, false, false] rfl rfl (any_of HT_.out (by kernel_rfl)) (fun _ _ _ h => h) (Or.inl ⟨by rfl, ?_⟩) ?_ ?_
  rotate_left
  ·
   intro w'
   go_simp
   with_reducible rfl
  rotate_left
  ·
   simp only [Act.put, List.setIfInBounds_toArray, List.set_cons_zero, List.set_cons_succ, i64_w, i32_w]
   rfl
  refine one_ (i := 6) (N := some 19) #[true, true, true, true, true, true, true, false, false, false] rfl rfl (one_of HT_.out (by kernel_rfl)) (by decide) (fun K hK => ?_)
  refine goes_ Try.func85 (by kernel_rfl) rfl #[.int .u64 1, .int .i64 (l1_0.length : Int)] (by rfl) rfl rfl vA ?_
  with_reducible refine (nat_Word.calls 1 (l1_0.length : Int) t852 _ A6.out).mono ?_
  rintro e w15 ⟨v853, rfl, ho0, hb⟩
  refine ⟨_, rfl, ?_⟩
  have n0_ := Aside0.mk (Kd.V_elder' (vV HO2.out) (Kd.R_base ho0) hb)
  have n1_ := Aside0.mk (Kd.N_elder' (by (with_reducible repeat (first | apply Kd.N_alloc | apply Kd.N_drewN | apply Kd.N_drew)); exact HO850.out) (Kd.R_base ho0) hb)
  have n2_ := Aside0.mk (Kd.R_lower (Kd.R_newM (M := fun k_ => (w.heap.size ≤ k_)) ho0 (below_size (vBg HB.out GE847.out)) (fun k_ h_ => h_)) (below_size (vBg HB.out GE847.out)))
  have n3_ := Aside0.mk (blk_below (g := gb847) (o := .cells #[.slice A1_0 l1_0.length c1_0, .int .u64 a1_1, .slice A1_2 l1_2.length c1_2] 59 (0, 0)) (vK BK847.out) hb)
  have n4_ := Aside0.mk (below_step (vBg HB.out GE847.out) hb)
  clear HO2
  clear HO850
  clear BK847
  clear HB
  have HO2 := n0_
  have HO850 := n1_
  have HO854 := n2_
  have BK847 := n3_
  have HB := n4_
  clear n0_ n1_ n2_ n3_ n4_
  (try clear hb)
  (try clear hb2)
  (try clear hk)
  (try clear hi)
  (try clear ho0)
  obtain ⟨Ao16, co16, eo16⟩ := Kd.R_slice HO854.out
  (first | subst eo16 | (injection eo16 with f1_ f2_ f3_; have f4_ := f1_.symm; have f5_ := f3_.symm; clear f1_ f2_ f3_; subst f4_; subst f5_))
  refine hK.out _ _ ⟨(blk_cell BK847.out 0).trans rfl, (blk_cell BK847.out 1).trans rfl, (blk_cell BK847.out 2).trans rfl⟩ (fun hHeld => ?_)
  clear hK K
  refine norm_ (a' := ?_) ?_ ?_
  rotate_left
  ·
   show Act.put _ (some 19) _ = _
   simp only [Act.put, List.setIfInBounds_toArray, List.set_cons_zero, List.set_cons_succ, i64_w, i32_w]
   rfl
  refine one_ (i := 7) (N := some 20) #[true, true, true, true, true, true, true, true, false, false] rfl rfl (one_of HT_.out (by kernel_rfl)) (by decide) (fun K hK => ?_)
  refine goes_ Try.func82 (by kernel_rfl) rfl #[.pointer none, .agg #[.slice A1_0 l1_0.length c1_0, .int .u64 a1_1, .slice A1_2 l1_2.length c1_2], .slice A2 l2.length c2, .slice Ao16 t852.length co16] (by rfl) rfl rfl vA ?_
  with_reducible refine (mont_Product.calls k  _ _ l1_0 a1_1 _ _ l1_2 _ _ l2 _ _ t852 t855 _ ?side1 ?side2 ?side3 ?side4 ?side5 ?side6 ?side7 ?side8 A7.out).mono ?_
  (case side1 => repeat (first | exact (Kd.C_below HR1_0.out HB.out) | (with_reducible refine Kd.C_alloc ?_ _) | (with_reducible refine Kd.C_drewN ?_ _) | (with_reducible refine Kd.C_drew ?_)))
  (case side2 => exact HC1_0.out)
  (case side3 => repeat (first | exact (Kd.C_below HR1_2.out HB.out) | (with_reducible refine Kd.C_alloc ?_ _) | (with_reducible refine Kd.C_drewN ?_ _) | (with_reducible refine Kd.C_drew ?_)))
  (case side4 => exact HC1_2.out)
  (case side5 => repeat (first | exact (Kd.V_reads' HO2.out).2.2 | (with_reducible refine Kd.C_alloc ?_ _) | (with_reducible refine Kd.C_drewN ?_ _) | (with_reducible refine Kd.C_drew ?_)))
  (case side6 => exact (Kd.V_reads' HO2.out).2.1)
  (case side7 => repeat (first | exact (Kd.R_reads' HO854.out).2.2 | (with_reducible refine Kd.C_alloc ?_ _) | (with_reducible refine Kd.C_drewN ?_ _) | (with_reducible refine Kd.C_drew ?_)))
  (case side8 => exact (Kd.R_reads' HO854.out).2.1)
  rintro e w17 ⟨v856, rfl, ho0, hb⟩
  refine ⟨_, rfl, ?_⟩
  have n0_ := Aside0.mk (Kd.V_elder' (vV HO2.out) (Kd.R_base ho0) hb)
  have n1_ := Aside0.mk (Kd.N_elder' (by (with_reducible repeat (first | apply Kd.N_alloc | apply Kd.N_drewN | apply Kd.N_drew)); exact HO850.out) (Kd.R_base ho0) hb)
  have n2_ := Aside0.mk (Kd.R_elder' (vR HO854.out) (Kd.R_base ho0) hb)
  have n3_ := Aside0.mk (Kd.R_lower (Kd.R_new' (Kd.R_newM (M := fun k_ => (w.heap.size ≤ k_)) ho0 (below_size (vBg HB.out GE847.out)) (fun k_ h_ => h_)) (Kd.R_lt (vR HO854.out))) (below_size (vBg HB.out GE847.out)))
  have n4_ := Aside0.mk (blk_below (g := gb847) (o := .cells #[.slice A1_0 l1_0.length c1_0, .int .u64 a1_1, .slice A1_2 l1_2.length c1_2] 59 (0, 0)) (vK BK847.out) hb)
  have n5_ := Aside0.mk (below_step (vBg HB.out GE847.out) hb)
  clear HO2
  clear HO850
  clear HO854
  clear BK847
  clear HB
  have HO2 := n0_
  have HO850 := n1_
  have HO854 := n2_
  have HO857 := n3_
  have BK847 := n4_
  have HB := n5_
  clear n0_ n1_ n2_ n3_ n4_ n5_
  (try clear hb)
  (try clear hb2)
  (try clear hk)
  (try clear hi)
  (try clear ho0)
  refine hK.out _ _ ⟨(blk_cell BK847.out 0).trans rfl, (blk_cell BK847.out 1).trans rfl, (blk_cell BK847.out 2).trans rfl⟩ (fun hHeld => ?_)
  clear hK K
  refine norm_ (a' := ?_) ?_ ?_
  rotate_left
  ·
   show Act.put _ (some 20) _ = _
   simp only [Act.put, List.setIfInBounds_toArray, List.set_cons_zero, List.set_cons_succ, i64_w, i32_w]
   rfl
  refine pure_ (i := 8) (N := some 6) (v := ?_) (a' := ?_) #[true, true, true, true, true, true, true, true, true, false] rfl rfl (any_of HT_.out (by kernel_rfl)) (fun _ _ _ h => h) (Or.inl ⟨by rfl, ?_⟩) ?_ ?_
  rotate_left
  ·
   intro w'
   go_simp
   with_reducible rfl
  rotate_left
  ·
   simp only [Act.put, List.setIfInBounds_toArray, List.set_cons_zero, List.set_cons_succ, i64_w, i32_w]
   rfl
  refine pure_ (i := 9) (N := some 7) (v := ?_) (a' := ?_) #[true, true, true, true, true, true, true, true, true, true] rfl rfl (any_of HT_.out (by kernel_rfl)) (fun _ _ _ h => h) (Or.inl ⟨by rfl, ?_⟩) ?_ ?_
  rotate_left
  ·
   intro w'
   go_simp
   with_reducible rfl
  rotate_left
  ·
   simp only [Act.put, List.setIfInBounds_toArray, List.set_cons_zero, List.set_cons_succ, i64_w, i32_w]
   rfl
  refine done_ (done_of HT_.out (by kernel_rfl)) ?_
  try go_wp2
  go_ret2
  exact ⟨_, by first | rfl | (simp [errW_none, errW_some] <;> rfl) | (simp [*, errW_none, errW_some] <;> rfl), by (with_reducible repeat (first | apply Kd.R_alloc | apply Kd.R_drewN | apply Kd.R_drew)); exact Kd.R_mono HO857.out (fun _ hk => hk.1.1), by repeat (first | (with_reducible first | exact HB.out | apply below_alloc | apply pw_below_drewN | apply below_drew1 | refine below_set ?_ GE847.out) | exact HB.out)⟩
 ·
  replace c5 := Bool.eq_false_iff.mpr c5
  subst c5
  have H1 : (some (([] : List Int), 1)) = some (r1, r2) := by rw [if_neg (show ¬ (false = true) by decide)] at H; exact H
  clear H
  have H := H1
  clear H1
  simp only [Option.some.injEq, Prod.mk.injEq] at H
  obtain ⟨rfl, rfl⟩ := H
  go_enter Try.func45, Try.ntmps45
  go_wp2_with (first | ((with_reducible refine gate_dst (N := 4) rfl ?_); refine box_event ?hg (N := 4) ?hd (cs := #[.slice A1_0 l1_0.length c1_0, .int .u64 a1_1, .slice A1_2 l1_2.length c1_2]) (t := 59) ?hr ?_; (case hd => rfl); (case hg => rfl); (case hr => first | (go_simp; done) | (go_simp; rfl)); intro gb847 hg w18 hbox hb; have n0_ := Aside0.mk (Kd.V_below (Kd.V_elderB (vV HO2.out) gb847 (Nat.le_of_eq hg.symm)) hb); have n1_ := Aside0.mk (below_step (vB HB.out) hb); have n2_ := Aside0.mk (hbox); have n3_ := Aside0.mk ((by rw [hg]; exact (below_size (vB HB.out)) : w.heap.size ≤ gb847)); have n4_ := Aside0.mk ((by rw [hg]; exact (below_size (vB HB.out)) : w.heap.size ≤ gb847)); clear HO2; clear HB; have HO2 := n0_; have HB := n1_; have BK847 := n2_; have GW847 := n3_; have GE847 := n4_; clear n0_ n1_ n2_ n3_ n4_; clear hb hbox hg; have hcz19_0 : w18.cell? ⟨gb847, 0, none⟩ = some (.slice A1_0 l1_0.length c1_0) := (blk_cell BK847.out 0).trans rfl; have hcz19_1 : w18.cell? ⟨gb847, 1, none⟩ = some (.int .u64 a1_1) := (blk_cell BK847.out 1).trans rfl; have hcz19_2 : w18.cell? ⟨gb847, 2, none⟩ = some (.slice A1_2 l1_2.length c1_2) := (blk_cell BK847.out 2).trans rfl; have hfz19_0 := blk_frozen BK847.out 0; have hfz19_1 := blk_frozen BK847.out 1; have hfz19_2 := blk_frozen BK847.out 2) | ((with_reducible refine gate_dst (N := 10) rfl ?_); refine Kd.N_lit (Kd.slice 37 (Kd.int .u64)) _ 23 ?hg (N' := 10) ?hd (xs := ([l2] : List (List Int))) (inner := [.slice A2 l2.length c2]) (ok := (fun k_ => (P2_ k_ ∨ w.heap.size ≤ k_) ∧ k_ ≠ gb847)) (okp := (fun k_ => (P2_ k_ ∨ w.heap.size ≤ k_) ∧ k_ ≠ gb847)) ?hr ?hp (fun _ hk => hk) ((show ∀ k_, w18.heap.size ≤ k_ → (fun k_ => (P2_ k_ ∨ w.heap.size ≤ k_) ∧ k_ ≠ gb847) k_ from fun k_ hk => ⟨(.inr (Nat.le_trans (below_size (vBg HB.out GE847.out)) hk)), Kd.freshB (g := gb847) (o := .cells #[.slice A1_0 l1_0.length c1_0, .int .u64 a1_1, .slice A1_2 l1_2.length c1_2] 59 (0, 0)) (vK BK847.out) k_ hk⟩) _ (Nat.le_refl _)) (Below.refl _ _) (Nat.le_refl _) (by simp) ?_; (case hd => rfl); (case hg => rfl); (case hr => first | (go_simp; done) | (go_simp; rfl)); (case hp => exact (Reps.one (show Kd.FK (Kd.slice 37 (Kd.int .u64)) _ _ l2 [.slice A2 l2.length c2] from (Kd.FK_slice_mk (Kd.V_reads' (Kd.V_mono (ok' := (fun k_ => (P2_ k_ ∨ w.heap.size ≤ k_) ∧ k_ ≠ gb847)) (HO2.out) (fun k_ hk => ⟨hk.1, hk.2⟩))).2.1 (Kd.V_F (by (with_reducible repeat (first | apply Kd.V_alloc | apply Kd.V_drewN | apply Kd.V_drew)); exact (Kd.V_mono (ok' := (fun k_ => (P2_ k_ ∨ w.heap.size ≤ k_) ∧ k_ ≠ gb847)) (HO2.out) (fun k_ hk => ⟨hk.1, hk.2⟩)))))) (Reps.none _ _))); intro v849 w20 ho21 hb hg_ hnew_; clear hg_ hnew_; (first | rw [← Ny848.out] at ho21 | (simp only [Int.reduceToNat] at ho21; rw [← Ny848.out] at ho21)); have n0_ := Aside0.mk (Kd.V_elder' (vV HO2.out) (Kd.N_base ho21) hb); have n1_ := Aside0.mk (Kd.N_lower ho21 (below_size (vBg HB.out GE847.out))); have n2_ := Aside0.mk (blk_below (g := gb847) (o := .cells #[.slice A1_0 l1_0.length c1_0, .int .u64 a1_1, .slice A1_2 l1_2.length c1_2] 59 (0, 0)) (vK BK847.out) hb); have n3_ := Aside0.mk (below_step (vBg HB.out GE847.out) hb); clear HO2; clear BK847; clear HB; have HO2 := n0_; have HO850 := n1_; have BK847 := n2_; have HB := n3_; clear n0_ n1_ n2_ n3_; clear hb ho21; obtain ⟨Ao22, co22, eo22⟩ := Kd.N_slice HO850.out; subst eo22) | ((with_reducible refine gate_callee (f := 81) rfl ?_); refine goesL_ (some 11) rfl rfl Try.func81 (by kernel_rfl) rfl #[.agg #[.slice A1_0 l1_0.length c1_0, .int .u64 a1_1, .slice A1_2 l1_2.length c1_2], .slice Ao22 y848.length co22] rfl vA ?_; (with_reducible refine (mont_members.calls k _ _ l1_0 a1_1 _ _ l1_2 _ _ y848 false _ ?side1 ?side2 ?side3 ?side4 ?side5 ?side6 A4.out).mono ?_); (case side1 => repeat (first | exact (Kd.C_below HR1_0.out HB.out) | (with_reducible refine Kd.C_alloc ?_ _) | (with_reducible refine Kd.C_drewN ?_ _) | (with_reducible refine Kd.C_drew ?_))); (case side2 => exact HC1_0.out); (case side3 => repeat (first | exact (Kd.C_below HR1_2.out HB.out) | (with_reducible refine Kd.C_alloc ?_ _) | (with_reducible refine Kd.C_drewN ?_ _) | (with_reducible refine Kd.C_drew ?_))); (case side4 => exact HC1_2.out); (case side5 => repeat (first | exact (Kd.N_reads' HO850.out).2.2 | (with_reducible refine Kd.C_alloc ?_ _) | (with_reducible refine Kd.C_drewN ?_ _) | (with_reducible refine Kd.C_drew ?_))); (case side6 => exact (Kd.N_reads' HO850.out).2.1); rintro e w23 ⟨rfl, hb⟩; refine ⟨_, rfl, ?_⟩; have n0_ := Aside0.mk (Kd.V_below (vV HO2.out) hb); have n1_ := Aside0.mk (Kd.N_below (by (with_reducible repeat (first | apply Kd.N_alloc | apply Kd.N_drewN | apply Kd.N_drew)); exact HO850.out) hb); have n2_ := Aside0.mk (blk_below (g := gb847) (o := .cells #[.slice A1_0 l1_0.length c1_0, .int .u64 a1_1, .slice A1_2 l1_2.length c1_2] 59 (0, 0)) (vK BK847.out) hb); have n3_ := Aside0.mk (below_step (vBg HB.out GE847.out) hb); clear HO2; clear HO850; clear BK847; clear HB; have HO2 := n0_; have HO850 := n1_; have BK847 := n2_; have HB := n3_; clear n0_ n1_ n2_ n3_; (try clear hb); (try clear hb2); (try clear hk); (try clear hi)))
  go_ret2
  exact ⟨_, by first | rfl | (simp [errW_none, errW_some] <;> rfl) | (simp [*, errW_none, errW_some] <;> rfl), by first | exact Kd.R_nil _ _ _ _ _ | exact Kd.N_nil _ _ _ _ _ | exact Kd.V_nil _ _ _ _ _ | exact Kd.Q_nil _ _ _ _ _ | exact Kd.S_nil _ _ _ _ _, by repeat (first | (with_reducible first | exact HB.out | apply below_alloc | apply pw_below_drewN | apply below_drew1 | refine below_set ?_ GE847.out) | exact HB.out)⟩
end Go.Proofs.Ytalfniohakahlaa.X
