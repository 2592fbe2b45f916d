/- Texts of the walk and of the plain laws, laid together by a program: Fw8, X47. -/
import Derived.Test.YtonpekldcnankaaZC20
import Derived.Test.YtonpekldcnankaaZC22
section
namespace Go.Proofs.Ytonpekldcnankaa.X
open Go.RowKit Go.Proofs.YtonpekldcnankaaW.PrintWords Go.Proofs.YtonpekldcnankaaW.PrintLast Go.Proofs.YtonpekldcnankaaW.PrintMore
set_option linter.unusedVariables false
set_option linter.unusedSimpArgs false
set_option maxHeartbeats 4000000 in
set_option maxRecDepth 100000 in
theorem few8_calls (k:Nat) (A0:Option Addr) (c0:Nat) (m0:List Int) (m1:Int) (A2:Option Addr) (c2:Nat) (m2:List Int) (Aa:Option Addr) (ca:Nat) (la:List Int) (Ae:Option Addr) (ce:Nat) (le:List Int) (r:Bool) (w:World)
    (hr0:Kd.C (Kd.int .u64) w A0 m0.length m0) (hc0:m0.length≤c0) (hr2:Kd.C (Kd.int .u64) w A2 m2.length m2) (hc2:m2.length≤c2) (hra:Kd.C (Kd.int .u64) w Aa la.length la) (hca:la.length≤ca)
    (h:((sconcelaw07_Few.f k m0 m1 m2 [la]).bind fun t => if t = true then (if (m0.length:Int)≤10 then (if (le.length:Int)≤6 then some true else some ((le.length:Int) == 301)) else some false) else some false) = some r) :
    Calls Try.prog 38 #[.agg #[.slice A0 m0.length c0,.int .u64 m1,.slice A2 m2.length c2],.slice Aa la.length ca,.slice Ae le.length ce] w fun e w' => e = .returned (.bool r)∧Below w.heap.size w w':=by
  have hu59:=Try.underlying26
  cases e1:sconcelaw07_Few.f k m0 m1 m2 [la] with
  | none => rw [e1] at h;exact absurd h (by simp)
  | some t =>
  rw [e1,Option.bind_some] at h
  have HH:=Aside0.mk h
  have HMC:=Aside0.mk (fun (W:World) (hW:Below w.heap.size w W) (g:Nat) (hg:W.heap[g]? = some (.cells #[.slice Aa la.length ca] 23 (0,0))) => (show Calls Try.prog 17 #[.agg #[.slice A0 m0.length c0,.int .u64 m1,.slice A2 m2.length c2],.slice (some ⟨g,0,none⟩) 1 1] W _ from sconcelaw07_Few.calls k _ A0 c0 m0 m1 _ A2 c2 m2 _ 1 [la] t W (Kd.V_mk hc0 (Kd.C_F (Kd.heap_int .u64) (Kd.C_below hr0 hW))) (Kd.V_mk hc2 (Kd.C_F (Kd.heap_int .u64) (Kd.C_below hr2 hW))) (rg_C1 hg (Kd.C_below hra hW) hca) (Nat.le_refl _) e1))
  clear hr0 hr2 hra h e1
  go_enter Try.func38,Try.ntmps38
  go_upto_region 1 with ((with_reducible refine gate_dst (N:=3) rfl ?_);refine box_event ?hg (N:=3) ?hd (cs:=#[.slice A0 m0.length c0,.int .u64 m1,.slice A2 m2.length c2]) (t:=26) ?hr ?_;(case hd => rfl);(case hg => rfl);(case hr => first | (go_simp;done) | (go_simp;rfl));intro gb hgb w3 hbox hb;subst hgb;have HX:=Aside0.mk hbox;have HB:=Aside0.mk hb;clear hbox hb)
  have z0:=(blk_cell HX.out 0).trans rfl
  have z1:=(blk_cell HX.out 1).trans rfl
  have z2:=(blk_cell HX.out 2).trans rfl
  have hl:=below_alloc (Below.refl w3.heap.size w3) (Obj.cells #[.slice Aa la.length ca] 23)
  have HM:=Aside0.mk (HMC.out _ (below_then HB.out HB.out.size hl) _ (blk_new w3 _))
  have HL:=Aside0.mk hl
  clear hl
  cases t with
  | false =>
    obtain rfl:r = false:=by have:=HH.out;simpa using this.symm
    go_wp2_with (go_at_call 17;(with_reducible refine HM.out.mono ?_);rintro e w4 ⟨rfl,hb4⟩;have HB4:=Aside0.mk (below_then HL.out HL.out.size hb4);clear hb4)
    go_ret
    exact ⟨rfl,below_then HB.out HB.out.size HB4.out⟩
  | true =>
  by_cases h10:(m0.length:Int)≤10
  · have d1:decide ((m0.length:Int)≤10) = true:=decide_eq_true h10
    have d2:decide (m0.length≤10) = true:=decide_eq_true (by omega)
    by_cases h6:(le.length:Int)≤6
    · obtain rfl:r = true:=by have:=HH.out;rw [if_pos rfl,if_pos h10,if_pos h6] at this;simpa using this.symm
      have d3:decide ((le.length:Int)≤6) = true:=decide_eq_true h6
      have d4:decide (le.length≤6) = true:=decide_eq_true (by omega)
      go_wp2_with (go_at_call 17;(with_reducible refine HM.out.mono ?_);rintro e w4 ⟨rfl,hb4⟩;have HB4:=Aside0.mk (below_then HL.out HL.out.size hb4);have z0':=(blk_cell (blk_below HX.out (below_then HL.out HL.out.size hb4)) 0).trans rfl;clear hb4)
      go_ret
      exact ⟨rfl,below_then HB.out HB.out.size HB4.out⟩
    · have hr:r = ((le.length:Int) == 301):=by have:=HH.out;rw [if_pos rfl,if_pos h10,if_neg h6] at this;exact (Option.some.inj this).symm
      have d3:decide ((le.length:Int)≤6) = false:=decide_eq_false h6
      have d4:decide (le.length≤6) = false:=decide_eq_false (by omega)
      by_cases h301:le.length = 301
      · have d5:((le.length:Int) == 301) = true:=beq_iff_eq.2 (by omega)
        have d6:(le.length == 301) = true:=beq_iff_eq.2 h301
        have d7:decide (le.length = 301) = true:=decide_eq_true h301
        rw [d5] at hr
        subst hr
        clear h301
        go_wp2_with (go_at_call 17;(with_reducible refine HM.out.mono ?_);rintro e w4 ⟨rfl,hb4⟩;have HB4:=Aside0.mk (below_then HL.out HL.out.size hb4);have z0':=(blk_cell (blk_below HX.out (below_then HL.out HL.out.size hb4)) 0).trans rfl;clear hb4)
        go_ret
        exact ⟨rfl,below_then HB.out HB.out.size HB4.out⟩
      · have d5:((le.length:Int) == 301) = false:=beq_eq_false_iff_ne.2 (by omega)
        have d6:(le.length == 301) = false:=beq_eq_false_iff_ne.2 h301
        have d7:decide (le.length = 301) = false:=decide_eq_false h301
        rw [d5] at hr
        subst hr
        clear h301
        go_wp2_with (go_at_call 17;(with_reducible refine HM.out.mono ?_);rintro e w4 ⟨rfl,hb4⟩;have HB4:=Aside0.mk (below_then HL.out HL.out.size hb4);have z0':=(blk_cell (blk_below HX.out (below_then HL.out HL.out.size hb4)) 0).trans rfl;clear hb4)
        go_ret
        exact ⟨rfl,below_then HB.out HB.out.size HB4.out⟩
  · obtain rfl:r = false:=by have:=HH.out;rw [if_pos rfl,if_neg h10] at this;simpa using this.symm
    have d1:decide ((m0.length:Int)≤10) = false:=decide_eq_false h10
    have d2:decide (m0.length≤10) = false:=decide_eq_false (by omega)
    go_wp2_with (go_at_call 17;(with_reducible refine HM.out.mono ?_);rintro e w4 ⟨rfl,hb4⟩;have HB4:=Aside0.mk (below_then HL.out HL.out.size hb4);have z0':=(blk_cell (blk_below HX.out (below_then HL.out HL.out.size hb4)) 0).trans rfl;clear hb4)
    go_ret
    exact ⟨rfl,below_then HB.out HB.out.size HB4.out⟩
end Go.Proofs.Ytonpekldcnankaa.X
end
section
namespace Go.Proofs.Ytonpekldcnankaa.X
open Go.RowKit Go.Proofs.YtonpekldcnankaaW.PrintWords Go.Proofs.YtonpekldcnankaaW.PrintLast Go.Proofs.YtonpekldcnankaaW.PrintMore
attribute [local go_sem] max2_int min2_int max_two min_two max_three min_three max_four min_four
set_option linter.unusedVariables false
set_option linter.unusedSimpArgs false
def sconcelaw08_Few.f (k:Nat) (m0:List Int) (m1:Int) (m2:List Int) (la le:List Int):Option Bool :=
 (sconcelaw07_Few.f k m0 m1 m2 [la]).bind fun t => if t = true then (if (m0.length:Int)≤10 then (if (le.length:Int)≤6 then some true else some ((le.length:Int) == 301)) else some false) else some false
theorem sconcelaw08_Few.calls (k:Nat) (A0_0:Option Addr) (c0_0:Nat) (l0_0:List Int) (a0_1:Int) (A0_2:Option Addr) (c0_2:Nat) (l0_2:List Int) (A1:Option Addr) (c1:Nat) (l1:List Int) (A2:Option Addr) (c2:Nat) (l2:List Int) (r:Bool) (w:World) (hr0_0:Kd.C (Kd.int .u64) w A0_0 l0_0.length l0_0) (hc0_0:l0_0.length≤c0_0) (hr0_2:Kd.C (Kd.int .u64) w A0_2 l0_2.length l0_2) (hc0_2:l0_2.length≤c0_2) (hr1:Kd.C (Kd.int .u64) w A1 l1.length l1) (hc1:l1.length≤c1) (hr2:Kd.C (Kd.int .u64) w A2 l2.length l2) (hc2:l2.length≤c2) (h:sconcelaw08_Few.f k l0_0 a0_1 l0_2 l1 l2 = some r) :
  Calls Try.prog 38 #[.agg #[.slice A0_0 l0_0.length c0_0,.int .u64 a0_1,.slice A0_2 l0_2.length c0_2],.slice A1 l1.length c1,.slice A2 l2.length c2] w fun e w' => e = .returned (.bool r)∧Below w.heap.size w w' :=
 few8_calls k A0_0 c0_0 l0_0 a0_1 A0_2 c0_2 l0_2 A1 c1 l1 A2 c2 l2 r w hr0_0 hc0_0 hr0_2 hc0_2 hr1 hc1 h
end Go.Proofs.Ytonpekldcnankaa.X
end
