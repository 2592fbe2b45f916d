/- Texts of the walk and of the plain laws, laid together by a program: Rs, X27, Rn, X29. -/
import Derived.Test.YtonpekldcnankaaZG0
import Derived.Test.YtonpekldcnankaaZG1
import Derived.Test.YtonpekldcnankaaZG2
import Derived.Test.YtonpekldcnankaaZG5
import Derived.Test.YtonpekldcnankaaZG4
import Derived.Test.YtonpekldcnankaaZG16
import Derived.Test.YtonpekldcnankaaZG25
import Derived.Test.YtonpekldcnankaaZG26
import Derived.Test.YtonpekldcnankaaZG35
set_option maxHeartbeats 4000000
set_option maxRecDepth 100000
section
namespace Go.Proofs.Ytonpekldcnankaa.X
open Go.RowKit Go.Proofs.YtonpekldcnankaaW.PrintWords Go.Proofs.YtonpekldcnankaaW.PrintLast Go.Proofs.YtonpekldcnankaaW.PrintMore Go.Proofs.Ytonpekldcnankaa.Ma
set_option linter.unusedVariables false
set_option linter.unusedSimpArgs false
theorem sp_ring_Minus {m0 la lb:List Int} (m1:Int) (m2:List Int) (hm:Wd m0) (ha:Wd la) (hb:Wd lb) (la':la.length = m0.length) (lb':lb.length = m0.length) (ma:nW la < nW m0) (mb:nW lb≤nW m0) (hn:m0.length≤300) :
    ring_Minus.f m0 m1 m2 la lb = some (wds m0.length ((nW la + nW m0 - nW lb) % nW m0)):=by
  have hM:=nW_lt hm
  unfold ring_Minus.f
  rw [sp_limbs_Sub ha hb (by omega),Option.bind_some,la',lb',Nat.max_self]
  by_cases c:nW la < nW lb
  · rw [if_pos c]
    simp only []
    rw [sp_limbs_AddIf (by decide) (wds_Wd _ _) hm (by rw [dgs_length];omega),Option.bind_some,dgs_length,Nat.max_self,if_pos (by decide),Nat.mod_eq_of_lt (show nW la + nW m0 - nW lb < nW m0 by omega)]
    simp only []
    rw [nW_wds (by omega)]
    congr 1
    show dgs _ _ _ = dgs _ _ _
    rw [show nW la + 18446744073709551616 ^ m0.length - nW lb + nW m0 = (nW la + nW m0 - nW lb) + 18446744073709551616 ^ m0.length by omega,← dgs_mod,Nat.add_mod_right,dgs_mod]
  · rw [if_neg c]
    simp only []
    rw [sp_limbs_AddIf (by decide) (wds_Wd _ _) hm (by rw [dgs_length];omega),Option.bind_some,dgs_length,Nat.max_self,if_neg (by decide),show nW la + nW m0 - nW lb = (nW la - nW lb) + nW m0 by omega,Nat.add_mod_right,Nat.mod_eq_of_lt (show nW la - nW lb < nW m0 by omega)]
    simp only []
    rw [nW_wds (by omega)]
    rfl
theorem ring_Sub1_ok (A0:Option Addr) (c0:Nat) (m0:List Int) (m1:Int) (A2:Option Addr) (c2:Nat) (m2:List Int) (Aa:Option Addr) (ca:Nat) (la:List Int) (Ab:Option Addr) (cb:Nat) (lb:List Int) (bt bm ba bb:Nat) (P:Value→World→Prop) (w:World)
    (ht:w.heap[bt]? = some (.cells #[.pointer none] 71 (0,0))) (hm:w.heap[bm]? = some (.cells #[.slice A0 m0.length c0,.int .u64 m1,.slice A2 m2.length c2] 26 (0,0))) (ha:w.heap[ba]? = some (.cells #[.slice Aa la.length ca] 23 (0,0))) (hb:w.heap[bb]? = some (.cells #[.slice Ab lb.length cb] 23 (0,0)))
    (hd:Calls Try.prog 73 #[.pointer none,.agg #[.slice A0 m0.length c0,.int .u64 m1,.slice A2 m2.length c2],.slice Aa la.length ca,.slice Ab lb.length cb] w fun e w' => ∃ v,e = .returned v∧P v w') :
    Calls Try.prog 72 #[.pointer (some ⟨bt,0,none⟩),.pointer (some ⟨bm,0,none⟩),.pointer (some ⟨ba,0,none⟩),.pointer (some ⟨bb,0,none⟩)] w fun e w' => ∃ v,e = .returned v∧P v w':=by
  have hu59:=Try.underlying26
  have HD:=Aside0.mk hd
  have zt:=cell_of_one ht
  have za:=cell_of_one ha
  have zb:=cell_of_one hb
  have z0:=(blk_cell hm 0).trans rfl
  have z1:=(blk_cell hm 1).trans rfl
  have z2:=(blk_cell hm 2).trans rfl
  clear hd ht hm ha hb
  go_enter Try.func72,Try.ntmps72
  go_wp2_with (go_at_call 73;(with_reducible refine HD.out.mono ?_);rintro e w5 ⟨v,rfl,hp⟩;have HP:=Aside0.mk hp;clear hp)
  go_ret
  exact ⟨_,rfl,HP.out⟩
theorem ring_Sub_enter (A0:Option Addr) (c0:Nat) (m0:List Int) (m1:Int) (A2:Option Addr) (c2:Nat) (m2:List Int) (Aa:Option Addr) (ca:Nat) (la:List Int) (Ab:Option Addr) (cb:Nat) (lb:List Int) (r1:List Int) (r2:Int) (w:World)
    (hD:∀ (W:World) (gl:Nat),Below w.heap.size w W→(W.heap[w.heap.size]? = some (.cells #[.pointer none] 71 (0,0))∧W.heap[w.heap.size + 1]? = some (.cells #[.slice A0 m0.length c0,.int .u64 m1,.slice A2 m2.length c2] 26 (0,0))∧W.heap[w.heap.size + 1 + 1]? = some (.cells #[.slice Aa la.length ca] 23 (0,0))∧W.heap[w.heap.size + 1 + 1 + 1]? = some (.cells #[.slice Ab lb.length cb] 23 (0,0))) →
      W.heap[gl]? = some (.cells #[.slice Aa la.length ca,.slice Ab lb.length cb] 23 (0,0))→Calls Try.prog 63 #[.agg #[.slice A0 m0.length c0,.int .u64 m1,.slice A2 m2.length c2],.func (.func 72) #[] #[.pointer (some ⟨w.heap.size,0,none⟩),.pointer (some ⟨w.heap.size + 1,0,none⟩),.pointer (some ⟨w.heap.size + 1 + 1,0,none⟩),.pointer (some ⟨w.heap.size + 1 + 1 + 1,0,none⟩)],.slice (some ⟨gl,0,none⟩) 2 2] W fun e w' => ∃ v,e = .returned (.tuple #[v,.int .i64 r2])∧Kd.R (Kd.int .u64) 24 w' w.heap.size (fun _ => True) v r1∧Below w.heap.size w w') :
    Calls Try.prog 25 #[.pointer none,.agg #[.slice A0 m0.length c0,.int .u64 m1,.slice A2 m2.length c2],.slice Aa la.length ca,.slice Ab lb.length cb] w fun e w' => ∃ v,e = .returned (.tuple #[v,.int .i64 r2])∧Kd.R (Kd.int .u64) 24 w' w.heap.size (fun _ => True) v r1∧Below w.heap.size w w':=by
  obtain ⟨w0,hw0⟩:∃ w0:World,w0 = (((w.alloc (.cells #[.pointer none] 71)).alloc (.cells #[.slice A0 m0.length c0,.int .u64 m1,.slice A2 m2.length c2] 26)).alloc (.cells #[.slice Aa la.length ca] 23)).alloc (.cells #[.slice Ab lb.length cb] 23):=⟨_,rfl⟩
  obtain ⟨hb,hB,hsz⟩:=rg_boxes4 w _ _ _ _ _ _ _ _ w0 hw0
  have hu59:=Try.underlying26
  have hl:=blk_new w0 (Obj.cells #[.slice Aa la.length ca,.slice Ab lb.length cb] 23)
  rw [hsz] at hl
  have hc:=hD (w0.alloc (Obj.cells #[.slice Aa la.length ca,.slice Ab lb.length cb] 23)) (w.heap.size + 1 + 1 + 1 + 1) (below_alloc hB _) ⟨blk_alloc hb.1 _,blk_alloc hb.2.1 _,blk_alloc hb.2.2.1 _,blk_alloc hb.2.2.2 _⟩ hl
  clear hD hb hB hsz hl
  subst hw0
  have HC:=Aside0.mk hc
  clear hc
  go_enter Try.func25,Try.ntmps25
  go_wp2_with (go_at_call 63;(with_reducible refine HC.out.mono ?_);rintro e w5 ⟨v,rfl,hp⟩;have HP:=Aside0.mk hp;clear hp)
  go_ret2
  exact ⟨_,rfl,HP.out⟩
theorem ring_Sub_walk (k:Nat) (A0:Option Addr) (c0:Nat) (m0:List Int) (m1:Int) (A2:Option Addr) (c2:Nat) (m2:List Int) (Aa:Option Addr) (ca:Nat) (la:List Int) (Ab:Option Addr) (cb:Nat) (lb:List Int) (r1:List Int) (r2:Int) (w:World) (hr0:Kd.C (Kd.int .u64) w A0 m0.length m0) (hc0:m0.length≤c0) (hr2:Kd.C (Kd.int .u64) w A2 m2.length m2) (hc2:m2.length≤c2) (hra:Kd.C (Kd.int .u64) w Aa la.length la) (hca:la.length≤ca) (hrb:Kd.C (Kd.int .u64) w Ab lb.length lb) (hcb:lb.length≤cb)
    (h:Rg.out (mont_Check.f k m0 m1 m2) m0 [la,lb] (dgs 18446744073709551616 m0.length ((num 18446744073709551616 la + num 18446744073709551616 m0 - num 18446744073709551616 lb) % num 18446744073709551616 m0)) = some (r1,r2)) :
    Calls Try.prog 25 #[.pointer none,.agg #[.slice A0 m0.length c0,.int .u64 m1,.slice A2 m2.length c2],.slice Aa la.length ca,.slice Ab lb.length cb] w fun e w' => ∃ v,e = .returned (.tuple #[v,.int .i64 r2])∧Kd.R (Kd.int .u64) 24 w' w.heap.size (fun _ => True) v r1∧Below w.heap.size w w':=by
  unfold Rg.out at h
  split at h
  · rename_i hok0
    have hok:=Rg.ok_iff.1 hok0
    have hWa:Wd la:=hok.1.2 _ (by simp)
    have hWb:Wd lb:=hok.1.2 _ (by simp)
    cases e:mont_Check.f k m0 m1 m2 with
    | none => rw [e] at h;exact absurd h (by simp)
    | some chk =>
      rw [e] at h
      simp only [Option.bind_some] at h
      refine ring_Sub_enter A0 c0 m0 m1 A2 c2 m2 Aa ca la Ab cb lb r1 r2 w fun W gl hW hb hl => ?_
      have hC:=rg_C2 hl (Kd.C_below hra hW) hca (Kd.C_below hrb hW) hcb
      split at h
      · rename_i hy
        simp only [Option.some.injEq,Prod.mk.injEq] at h
        obtain ⟨rfl,rfl⟩:=h
        obtain ⟨rfl,hmem⟩:=hy
        have hmm:=Rg.mem_iff.1 hmem
        refine (ring_done_yes k A0 c0 m0 m1 A2 c2 m2 72 _ _ _ [la,lb] (fun w1 v w' => Kd.R (Kd.int .u64) 24 w' w1.heap.size (fun _ => True) v (dgs 18446744073709551616 m0.length ((num 18446744073709551616 la + num 18446744073709551616 m0 - num 18446744073709551616 lb) % num 18446744073709551616 m0))∧Below w1.heap.size w1 w') W (Kd.C_below hr0 hW) hc0 (Kd.C_below hr2 hW) hc2 hC (by simp) e (Rg.at_mem hok0 hmem) (fun _ => rfl) (fun w1 hw1 => ?_)).mono ?_
        · have hW1:=below_then hW hW.size hw1
          refine ring_Sub1_ok A0 c0 m0 m1 A2 c2 m2 Aa ca la Ab cb lb _ _ _ _ _ w1 (blk_below hb.1 hw1) (blk_below hb.2.1 hw1) (blk_below hb.2.2.1 hw1) (blk_below hb.2.2.2 hw1) ?_
          have hval:=sp_ring_Minus m1 m2 hok.1.1 hWa hWb (hmm _ (by simp)).1 (hmm _ (by simp)).1 (hmm la (by simp)).2 (Nat.le_of_lt (hmm lb (by simp)).2) hok.2
          exact ring_Minus.calls A0 c0 m0 m1 A2 c2 m2 Aa ca la Ab cb lb _ w1 (Kd.C_below hr0 hW1) hc0 (Kd.C_below hr2 hW1) hc2 (Kd.C_below hra hW1) hca (Kd.C_below hrb hW1) hcb hval
        · rintro e w' ⟨w1,v,g1,rfl,g2,g3⟩
          have hW1:=below_then hW hW.size g1
          exact ⟨v,rfl,Kd.R_lower g2 hW1.size,below_then hW1 hW1.size g3⟩
      · rename_i hy
        simp only [Option.some.injEq,Prod.mk.injEq] at h
        obtain ⟨rfl,rfl⟩:=h
        refine (ring_done_no k A0 c0 m0 m1 A2 c2 m2 _ _ _ [la,lb] chk W (Kd.C_below hr0 hW) hc0 (Kd.C_below hr2 hW) hc2 hC (by simp) e (Rg.at_any hok0) (fun hc => Rg.at_no hok0 (fun hm => hy ⟨hc,hm⟩))).mono ?_
        rintro e w' ⟨rfl,g⟩
        exact ⟨_,rfl,Kd.R_nil _ _ _ _ _,below_then hW hW.size g⟩
  · exact absurd h (by simp)
end Go.Proofs.Ytonpekldcnankaa.X
end
section
namespace Go.Proofs.Ytonpekldcnankaa.X
open Go.RowKit Go.Proofs.YtonpekldcnankaaW.PrintWords Go.Proofs.YtonpekldcnankaaW.PrintLast Go.Proofs.YtonpekldcnankaaW.PrintMore
attribute [local go_sem] max2_int min2_int max_two min_two max_three min_three max_four min_four
set_option linter.unusedVariables false
set_option linter.unusedSimpArgs false
def ring_Sub.f (k:Nat) (m0:List Int) (m1:Int) (m2:List Int) (a b:List Int):Option (List Int × Int) :=
 Rg.out (mont_Check.f k m0 m1 m2) m0 [a,b] (Ma.dgs 18446744073709551616 m0.length ((Ma.num 18446744073709551616 a + Ma.num 18446744073709551616 m0 - Ma.num 18446744073709551616 b) % Ma.num 18446744073709551616 m0))
theorem ring_Sub.calls (k:Nat) (A1_0:Option Addr) (c1_0:Nat) (l1_0:List Int) (a1_1:Int) (A1_2:Option Addr) (c1_2:Nat) (l1_2:List Int) (A2:Option Addr) (c2:Nat) (l2:List Int) (A3:Option Addr) (c3:Nat) (l3:List Int) (r1:List Int) (r2:Int) (w:World) (hr1_0:Kd.C (Kd.int .u64) w A1_0 l1_0.length l1_0) (hc1_0:l1_0.length≤c1_0) (hr1_2:Kd.C (Kd.int .u64) w A1_2 l1_2.length l1_2) (hc1_2:l1_2.length≤c1_2) (hr2:Kd.C (Kd.int .u64) w A2 l2.length l2) (hc2:l2.length≤c2) (hr3:Kd.C (Kd.int .u64) w A3 l3.length l3) (hc3:l3.length≤c3) (h:ring_Sub.f k l1_0 a1_1 l1_2 l2 l3 = some (r1,r2)) :
  Calls Try.prog 25 #[.pointer none,.agg #[.slice A1_0 l1_0.length c1_0,.int .u64 a1_1,.slice A1_2 l1_2.length c1_2],.slice A2 l2.length c2,.slice A3 l3.length c3] w fun e w' => ∃ v0_:Value,e = .returned (.tuple #[v0_,.int .i64 r2])∧Kd.R (Kd.int .u64) 24 w' w.heap.size (fun _ => True) v0_ r1∧Below w.heap.size w w' :=
 ring_Sub_walk k A1_0 c1_0 l1_0 a1_1 A1_2 c1_2 l1_2 A2 c2 l2 A3 c3 l3 r1 r2 w hr1_0 hc1_0 hr1_2 hc1_2 hr2 hc2 hr3 hc3 h
end Go.Proofs.Ytonpekldcnankaa.X
end
section
namespace Go.Proofs.Ytonpekldcnankaa.X
open Go.RowKit Go.Proofs.YtonpekldcnankaaW.PrintWords Go.Proofs.YtonpekldcnankaaW.PrintLast Go.Proofs.YtonpekldcnankaaW.PrintMore Go.Proofs.Ytonpekldcnankaa.Ma
set_option linter.unusedVariables false
set_option linter.unusedSimpArgs false
theorem Wd_zeros (n:Nat):Wd (List.replicate n (0:Int)):=by rw [← dgs_zero (B:=18446744073709551616)];exact wds_Wd _ _
theorem ring_Neg1_ok (A0:Option Addr) (c0:Nat) (m0:List Int) (m1:Int) (A2:Option Addr) (c2:Nat) (m2:List Int) (Aa:Option Addr) (ca:Nat) (la:List Int) (bt bm ba:Nat) (P:Value→World→Prop) (w:World) (hla:la.length≤1000)
    (ht:w.heap[bt]? = some (.cells #[.pointer none] 71 (0,0))) (hm:w.heap[bm]? = some (.cells #[.slice A0 m0.length c0,.int .u64 m1,.slice A2 m2.length c2] 26 (0,0))) (ha:w.heap[ba]? = some (.cells #[.slice Aa la.length ca] 23 (0,0)))
    (hd:∀ (W:World) (Az:Option Addr) (cz:Nat),Below w.heap.size w W→Kd.C (Kd.int .u64) W Az la.length (List.replicate la.length 0)→la.length≤cz→Calls Try.prog 73 #[.pointer none,.agg #[.slice A0 m0.length c0,.int .u64 m1,.slice A2 m2.length c2],.slice Az la.length cz,.slice Aa la.length ca] W fun e w' => ∃ v,e = .returned v∧P v w'∧Below w.heap.size w w') :
    Calls Try.prog 75 #[.pointer (some ⟨bt,0,none⟩),.pointer (some ⟨bm,0,none⟩),.pointer (some ⟨ba,0,none⟩)] w fun e w' => ∃ v,e = .returned v∧P v w':=by
  have hu59:=Try.underlying26
  have HD:=Aside0.mk hd
  have HZ:=Aside0.mk (fun (W:World) (hW:Below w.heap.size w W) => And.intro (cell_of_one (blk_below ht hW)) (And.intro (cell_of_one (blk_below ha hW)) (And.intro ((blk_cell (blk_below hm hW) 0).trans rfl) (And.intro ((blk_cell (blk_below hm hW) 1).trans rfl) ((blk_cell (blk_below hm hW) 2).trans rfl)))))
  obtain ⟨zt,za,z0,z1,z2⟩:=HZ.out _ (Below.refl _ _)
  clear hd ht hm ha
  go_enter Try.func75,Try.ntmps75
  have hmk:=run_make_nat la.length (by omega)
  have hs:Below w.heap.size w (w.alloc (.cells (Zs la.length) 24)).drew:=Below.drew (below_alloc (Below.refl _ _) _)
  have hy:=HZ.out _ hs
  have hr:=R_zs (ok:=fun _ => True) (blk_new w (.cells (Zs la.length) 24)) (Nat.le_refl _) (by omega) trivial
  obtain ⟨hr1,hr2,hr3⟩:=Kd.R_reads' hr
  clear hr1
  try rw [List.length_replicate] at hr3
  have HDD:=Aside0.mk (HD.out _ _ _ hs (Kd.C_drew hr3) hr2)
  have HY:=Aside0.mk hy
  have HZ0:=Aside0.mk (HZ.out w.drew (Below.drew (Below.refl _ _)))
  clear HD hr hr2 hr3 hs hy zt za z0 z1 z2
  go_upto_region 1 with (fail)
  go_region_held3 (fun w' => w'.cell? ⟨bt,0,none⟩ = some (.pointer none)∧w'.cell? ⟨ba,0,none⟩ = some (.slice Aa la.length ca)∧w'.cell? ⟨bm,0,none⟩ = some (.slice A0 m0.length c0)∧w'.cell? ⟨bm,1,none⟩ = some (.int .u64 m1)∧w'.cell? ⟨bm,2,none⟩ = some (.slice A2 m2.length c2)) (first | exact HZ0.out | exact HY.out | exact HZ5.out) (first | (go_at_call 73;(with_reducible refine HDD.out.mono ?_);rintro e w5 ⟨v,rfl,hp,hb5⟩;have HP:=Aside0.mk hp;have HZ5:=Aside0.mk (HZ.out _ hb5);clear hp hb5))
  all_goals (go_wp2;go_ret;exact ⟨_,rfl,HP.out⟩)
theorem ring_Neg_enter (A0:Option Addr) (c0:Nat) (m0:List Int) (m1:Int) (A2:Option Addr) (c2:Nat) (m2:List Int) (Aa:Option Addr) (ca:Nat) (la:List Int) (r1:List Int) (r2:Int) (w:World)
    (hD:∀ (W:World) (gl:Nat),Below w.heap.size w W→(W.heap[w.heap.size]? = some (.cells #[.pointer none] 71 (0,0))∧W.heap[w.heap.size + 1]? = some (.cells #[.slice A0 m0.length c0,.int .u64 m1,.slice A2 m2.length c2] 26 (0,0))∧W.heap[w.heap.size + 1 + 1]? = some (.cells #[.slice Aa la.length ca] 23 (0,0))) →
      W.heap[gl]? = some (.cells #[.slice Aa la.length ca] 23 (0,0))→Calls Try.prog 63 #[.agg #[.slice A0 m0.length c0,.int .u64 m1,.slice A2 m2.length c2],.func (.func 75) #[] #[.pointer (some ⟨w.heap.size,0,none⟩),.pointer (some ⟨w.heap.size + 1,0,none⟩),.pointer (some ⟨w.heap.size + 1 + 1,0,none⟩)],.slice (some ⟨gl,0,none⟩) 1 1] W fun e w' => ∃ v,e = .returned (.tuple #[v,.int .i64 r2])∧Kd.R (Kd.int .u64) 24 w' w.heap.size (fun _ => True) v r1∧Below w.heap.size w w') :
    Calls Try.prog 27 #[.pointer none,.agg #[.slice A0 m0.length c0,.int .u64 m1,.slice A2 m2.length c2],.slice Aa la.length ca] w fun e w' => ∃ v,e = .returned (.tuple #[v,.int .i64 r2])∧Kd.R (Kd.int .u64) 24 w' w.heap.size (fun _ => True) v r1∧Below w.heap.size w w':=by
  obtain ⟨w0,hw0⟩:∃ w0:World,w0 = ((w.alloc (.cells #[.pointer none] 71)).alloc (.cells #[.slice A0 m0.length c0,.int .u64 m1,.slice A2 m2.length c2] 26)).alloc (.cells #[.slice Aa la.length ca] 23):=⟨_,rfl⟩
  obtain ⟨hb,hB,hsz⟩:=rg_boxes3 w _ _ _ _ _ _ w0 hw0
  have hu59:=Try.underlying26
  have hl:=blk_new w0 (Obj.cells #[.slice Aa la.length ca] 23)
  rw [hsz] at hl
  have hc:=hD (w0.alloc (Obj.cells #[.slice Aa la.length ca] 23)) (w.heap.size + 1 + 1 + 1) (below_alloc hB _) ⟨blk_alloc hb.1 _,blk_alloc hb.2.1 _,blk_alloc hb.2.2 _⟩ hl
  clear hD hb hB hsz hl
  subst hw0
  have HC:=Aside0.mk hc
  clear hc
  go_enter Try.func27,Try.ntmps27
  go_wp2_with (go_at_call 63;(with_reducible refine HC.out.mono ?_);rintro e w5 ⟨v,rfl,hp⟩;have HP:=Aside0.mk hp;clear hp)
  go_ret2
  exact ⟨_,rfl,HP.out⟩
theorem ring_Neg_walk (k:Nat) (A0:Option Addr) (c0:Nat) (m0:List Int) (m1:Int) (A2:Option Addr) (c2:Nat) (m2:List Int) (Aa:Option Addr) (ca:Nat) (la:List Int) (r1:List Int) (r2:Int) (w:World) (hr0:Kd.C (Kd.int .u64) w A0 m0.length m0) (hc0:m0.length≤c0) (hr2:Kd.C (Kd.int .u64) w A2 m2.length m2) (hc2:m2.length≤c2) (hra:Kd.C (Kd.int .u64) w Aa la.length la) (hca:la.length≤ca)
    (h:Rg.out (mont_Check.f k m0 m1 m2) m0 [la] (dgs 18446744073709551616 m0.length ((num 18446744073709551616 m0 - num 18446744073709551616 la) % num 18446744073709551616 m0)) = some (r1,r2)) :
    Calls Try.prog 27 #[.pointer none,.agg #[.slice A0 m0.length c0,.int .u64 m1,.slice A2 m2.length c2],.slice Aa la.length ca] w fun e w' => ∃ v,e = .returned (.tuple #[v,.int .i64 r2])∧Kd.R (Kd.int .u64) 24 w' w.heap.size (fun _ => True) v r1∧Below w.heap.size w w':=by
  unfold Rg.out at h
  split at h
  · rename_i hok0
    have hok:=Rg.ok_iff.1 hok0
    have hWa:Wd la:=hok.1.2 _ (by simp)
    cases e:mont_Check.f k m0 m1 m2 with
    | none => rw [e] at h;exact absurd h (by simp)
    | some chk =>
      rw [e] at h
      simp only [Option.bind_some] at h
      refine ring_Neg_enter A0 c0 m0 m1 A2 c2 m2 Aa ca la r1 r2 w fun W gl hW hb hl => ?_
      have hC:=rg_C1 hl (Kd.C_below hra hW) hca
      split at h
      · rename_i hy
        simp only [Option.some.injEq,Prod.mk.injEq] at h
        obtain ⟨rfl,rfl⟩:=h
        obtain ⟨rfl,hmem⟩:=hy
        have hmm:=Rg.mem_iff.1 hmem
        refine (ring_done_yes k A0 c0 m0 m1 A2 c2 m2 75 _ _ _ [la] (fun w1 v w' => Kd.R (Kd.int .u64) 24 w' w1.heap.size (fun _ => True) v (dgs 18446744073709551616 m0.length ((num 18446744073709551616 m0 - num 18446744073709551616 la) % num 18446744073709551616 m0))∧Below w1.heap.size w1 w') W (Kd.C_below hr0 hW) hc0 (Kd.C_below hr2 hW) hc2 hC (by simp) e (Rg.at_mem hok0 hmem) (fun _ => rfl) (fun w1 hw1 => ?_)).mono ?_
        · have hW1:=below_then hW hW.size hw1
          refine ring_Neg1_ok A0 c0 m0 m1 A2 c2 m2 Aa ca la _ _ _ _ w1 (by have:=(hmm la (by simp)).1;omega) (blk_below hb.1 hw1) (blk_below hb.2.1 hw1) (blk_below hb.2.2 hw1) (fun W2 Az cz hw2 hz hcz => ?_)
          have hW2:=below_then hW1 hW1.size hw2
          have hz0:nW (List.replicate la.length (0:Int)) = 0:=num_replicate _
          have hval:=sp_ring_Minus m1 m2 hok.1.1 (Wd_zeros la.length) hWa (by rw [List.length_replicate];exact (hmm _ (by simp)).1) (hmm _ (by simp)).1 (by rw [hz0];have:=(hmm la (by simp)).2;omega) (Nat.le_of_lt (hmm la (by simp)).2) hok.2
          rw [hz0,Nat.zero_add] at hval
          have hcall:=ring_Minus.calls A0 c0 m0 m1 A2 c2 m2 Az cz (List.replicate la.length 0) Aa ca la _ W2 (Kd.C_below hr0 hW2) hc0 (Kd.C_below hr2 hW2) hc2 (by rw [List.length_replicate];exact hz) (by rw [List.length_replicate];exact hcz) (Kd.C_below hra hW2) hca hval
          rw [List.length_replicate] at hcall
          refine hcall.mono ?_
          rintro e w' ⟨v,rfl,q1,q2⟩
          exact ⟨v,rfl,⟨Kd.R_lower q1 hw2.size,below_then hw2 hw2.size q2⟩,below_then hw2 hw2.size q2⟩
        · rintro e w' ⟨w1,v,g1,rfl,g2,g3⟩
          have hW1:=below_then hW hW.size g1
          exact ⟨v,rfl,Kd.R_lower g2 hW1.size,below_then hW1 hW1.size g3⟩
      · rename_i hy
        simp only [Option.some.injEq,Prod.mk.injEq] at h
        obtain ⟨rfl,rfl⟩:=h
        refine (ring_done_no k A0 c0 m0 m1 A2 c2 m2 _ _ _ [la] chk W (Kd.C_below hr0 hW) hc0 (Kd.C_below hr2 hW) hc2 hC (by simp) e (Rg.at_any hok0) (fun hc => Rg.at_no hok0 (fun hm => hy ⟨hc,hm⟩))).mono ?_
        rintro e w' ⟨rfl,g⟩
        exact ⟨_,rfl,Kd.R_nil _ _ _ _ _,below_then hW hW.size g⟩
  · exact absurd h (by simp)
end Go.Proofs.Ytonpekldcnankaa.X
end
section
namespace Go.Proofs.Ytonpekldcnankaa.X
open Go.RowKit Go.Proofs.YtonpekldcnankaaW.PrintWords Go.Proofs.YtonpekldcnankaaW.PrintLast Go.Proofs.YtonpekldcnankaaW.PrintMore
attribute [local go_sem] max2_int min2_int max_two min_two max_three min_three max_four min_four
set_option linter.unusedVariables false
set_option linter.unusedSimpArgs false
def ring_Neg.f (k:Nat) (m0:List Int) (m1:Int) (m2:List Int) (a:List Int):Option (List Int × Int) :=
 Rg.out (mont_Check.f k m0 m1 m2) m0 [a] (Ma.dgs 18446744073709551616 m0.length ((Ma.num 18446744073709551616 m0 - Ma.num 18446744073709551616 a) % Ma.num 18446744073709551616 m0))
theorem ring_Neg.calls (k:Nat) (A1_0:Option Addr) (c1_0:Nat) (l1_0:List Int) (a1_1:Int) (A1_2:Option Addr) (c1_2:Nat) (l1_2:List Int) (A2:Option Addr) (c2:Nat) (l2:List Int) (r1:List Int) (r2:Int) (w:World) (hr1_0:Kd.C (Kd.int .u64) w A1_0 l1_0.length l1_0) (hc1_0:l1_0.length≤c1_0) (hr1_2:Kd.C (Kd.int .u64) w A1_2 l1_2.length l1_2) (hc1_2:l1_2.length≤c1_2) (hr2:Kd.C (Kd.int .u64) w A2 l2.length l2) (hc2:l2.length≤c2) (h:ring_Neg.f k l1_0 a1_1 l1_2 l2 = some (r1,r2)) :
  Calls Try.prog 27 #[.pointer none,.agg #[.slice A1_0 l1_0.length c1_0,.int .u64 a1_1,.slice A1_2 l1_2.length c1_2],.slice A2 l2.length c2] w fun e w' => ∃ v0_:Value,e = .returned (.tuple #[v0_,.int .i64 r2])∧Kd.R (Kd.int .u64) 24 w' w.heap.size (fun _ => True) v0_ r1∧Below w.heap.size w w' :=
 ring_Neg_walk k A1_0 c1_0 l1_0 a1_1 A1_2 c1_2 l1_2 A2 c2 l2 r1 r2 w hr1_0 hc1_0 hr1_2 hc1_2 hr2 hc2 h
end Go.Proofs.Ytonpekldcnankaa.X
end
