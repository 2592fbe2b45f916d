/- Texts of the walk and of the plain laws, laid together by a program: Ak7, X21, Rl, X42, PsRingLaws, Sp7b, PureRingLaws. -/
import Derived.Test.YtonpekldcnankaaZL27
import Derived.Test.YtonpekldcnankaaZL33
import Derived.Test.YtonpekldcnankaaZL35
import Derived.Test.YtonpekldcnankaaZL41
set_option maxHeartbeats 8000000
set_option maxRecDepth 100000
section
namespace Go.Proofs.Ytonpekldcnankaa.X
open Go.RowKit Go.Proofs.YtonpekldcnankaaW.PrintWords Go.Proofs.YtonpekldcnankaaW.PrintLast Go.Proofs.YtonpekldcnankaaW.PrintMore
set_option linter.unusedVariables false
set_option linter.unusedSimpArgs false
theorem awake7_walk (k:Nat) (K:Int) (w:World) (hS:sconceref06_Setup.f k [7] = some ([7],K,[4],0)) (hA:ring_Add.f k [7] K [4] [5] [4] = some ([2],0)) (hH:ring_Half.f k [7] K [4] [5] = some ([6],0)) :
    Calls Try.prog 16 #[] w fun e w' => e = .returned (.bool true)∧Below w.heap.size w w':=by
  have hu59:=Try.underlying26
  have HS:=Aside0.mk (ak_setup hS (blk_new w (Obj.cells #[.int .u64 7] 24)))
  have HB1:=Aside0.mk (below_alloc (Below.refl w.heap.size w) (Obj.cells #[.int .u64 7] 24))
  have HA:=Aside0.mk hA
  have HH:=Aside0.mk hH
  clear hS hA hH
  go_enter Try.func16,Try.ntmps16
  go_upto_region 2 with (first
    | (go_at_call 62;(with_reducible refine HS.out.mono ?_);rintro e w4 ⟨A0,c0,A2,c2,rfl,hm4,hb4⟩;have HM4:=Aside0.mk hm4;have HB4:=Aside0.mk (below_then HB1.out HB1.out.size hb4);clear hm4 hb4)
    | ((with_reducible refine gate_dst (N:=1) rfl ?_);refine box_event ?hg (N:=1) ?hd (cs:=#[.slice none 0 0,.int .u64 0,.slice none 0 0]) (t:=26) ?hr ?_;(case hd => rfl);(case hg => rfl);(case hr => first | (go_simp;done) | (go_simp;rfl));intro gb hgb w5 hbox hb;subst hgb;have HX:=Aside0.mk hbox;have HB5:=Aside0.mk hb;have z0:=(blk_cell hbox 0).trans rfl;have z1:=(blk_cell hbox 1).trans rfl;have z2:=(blk_cell hbox 2).trans rfl;have f0:=blk_frozen hbox 0;have f1:=blk_frozen hbox 1;have f2:=blk_frozen hbox 2;clear hbox hb))
  obtain ⟨wM,hwM⟩:∃ W:World,W = ((w5.setCell ⟨w4.heap.size,0,none⟩ (.slice A0 1 c0)).setCell ⟨w4.heap.size,1,none⟩ (.int .u64 K)).setCell ⟨w4.heap.size,2,none⟩ (.slice A2 1 c2):=⟨_,rfl⟩
  obtain ⟨hx,hb4,hb0⟩:=ak_box HB4.out HB5.out HX.out hwM
  rw [← hwM]
  have HM:=Aside0.mk (HM4.out.below hb4)
  have HZ:=Aside0.mk (fun (W:World) (hW:Below wM.heap.size wM W) => And.intro ((blk_cell (blk_below hx hW) 0).trans rfl) (And.intro ((blk_cell (blk_below hx hW) 1).trans rfl) ((blk_cell (blk_below hx hW) 2).trans rfl)))
  have HB:=Aside0.mk hb0
  clear z0 z1 z2 f0 f1 f2 hwM hx hb4 hb0 HX HB5 HB4 HM4 HB1 HS
  obtain ⟨z0,z1,z2⟩:=HZ.out _ (Below.refl _ _)
  obtain ⟨g1,g2,g3⟩:=ak_two wM (.int .u64 5) (.int .u64 4) 24
  have hm:=HM.out.below g3
  have HA':=Aside0.mk (show Calls Try.prog 23 #[.pointer none,.agg #[.slice A0 1 c0,.int .u64 K,.slice A2 1 c2],.slice (some ⟨wM.heap.size,0,none⟩) 1 1,.slice (some ⟨wM.heap.size + 1,0,none⟩) 1 1] _ _ from ring_Add.calls k A0 c0 [7] K A2 c2 [4] _ 1 [5] _ 1 [4] [2] 0 _ hm.1 hm.2.1 hm.2.2.1 hm.2.2.2 (ak_lit g1) (Nat.le_refl _) (ak_lit g2) (Nat.le_refl _) HA.out)
  have HG:=Aside0.mk g3
  clear g1 g2 g3 hm
  go_upto_region 3 with (go_at_call 23;(with_reducible refine HA'.out.mono ?_);rintro e w6 ⟨va,rfl,ha,hb6⟩;have HR6:=Aside0.mk ha;have HB6:=Aside0.mk (below_then HG.out HG.out.size hb6);clear ha hb6)
  obtain ⟨ada,ca,rfl,xa⟩:=ak_one HR6.out
  clear z0 z1 z2
  obtain ⟨z0,z1,z2⟩:=HZ.out _ HB6.out
  have hm:=HM.out.below (below_then HB6.out HB6.out.size (below_alloc (Below.refl w6.heap.size w6) (Obj.cells #[.int .u64 5] 24)))
  have HH':=Aside0.mk (show Calls Try.prog 18 #[.pointer none,.agg #[.slice A0 1 c0,.int .u64 K,.slice A2 1 c2],.slice (some ⟨w6.heap.size,0,none⟩) 1 1] _ _ from ring_Half.calls k A0 c0 [7] K A2 c2 [4] _ 1 [5] [6] 0 _ hm.1 hm.2.1 hm.2.2.1 hm.2.2.2 (ak_lit (blk_new w6 (Obj.cells #[.int .u64 5] 24))) (Nat.le_refl _) HH.out)
  have HX:=Aside0.mk xa
  clear hm xa
  go_upto_region 4 with (go_at_call 18;(with_reducible refine HH'.out.mono ?_);rintro e w7 ⟨vb,rfl,ha,hb7⟩;have HR7:=Aside0.mk ha;have HB7:=Aside0.mk (below_then (below_alloc (Below.refl w6.heap.size w6) (Obj.cells #[.int .u64 5] 24)) (below_alloc (Below.refl w6.heap.size w6) (Obj.cells #[.int .u64 5] 24)).size hb7);clear ha hb7)
  obtain ⟨adb,cb,rfl,xb⟩:=ak_one HR7.out
  have xa:=(HB7.out.cell (World.block_lt_of_cell? w6 _ HX.out)).trans HX.out
  have HB':=Aside0.mk (below_then HB.out HB.out.size (below_then HB6.out HB6.out.size HB7.out))
  clear z0 z1 z2
  go_wp2
  go_ret
  exact ⟨rfl,HB'.out⟩
end Go.Proofs.Ytonpekldcnankaa.X
end
section
namespace Go.Proofs.Ytonpekldcnankaa.X
open Go.RowKit Go.Proofs.YtonpekldcnankaaW.PrintWords Go.Proofs.YtonpekldcnankaaW.PrintLast Go.Proofs.YtonpekldcnankaaW.PrintMore
attribute [local go_sem] max2_int min2_int max_two min_two max_three min_three max_four min_four
set_option linter.unusedVariables false
set_option linter.unusedSimpArgs false
def sconcelaw07_awake.f (k:Nat):Option Bool:=if sconceref06_Setup.f k [7] = some ([7],10540996613548315209,[4],0)∧ring_Add.f k [7] 10540996613548315209 [4] [5] [4] = some ([2],0)∧ring_Half.f k [7] 10540996613548315209 [4] [5] = some ([6],0) then some true else none
theorem sconcelaw07_awake.mono:∀ k,LeO (sconcelaw07_awake.f k) (sconcelaw07_awake.f (k + 1)):=by
 intro k r h
 unfold sconcelaw07_awake.f at h ⊢
 split at h
 ·
  rename_i hc
  rw [if_pos ⟨sconceref06_Setup.mono _ _ _ hc.1,ring_Add.mono _ _ _ _ _ _ _ hc.2.1,ring_Half.mono _ _ _ _ _ _ hc.2.2⟩]
  exact h
 ·
  exact absurd h (by simp)
theorem sconcelaw07_awake.calls (k:Nat) (r:Bool) (w:World) (h:sconcelaw07_awake.f k = some r) :
  Calls Try.prog 16 #[] w fun e w' => e = .returned (.bool r)∧Below w.heap.size w w':=by
 unfold sconcelaw07_awake.f at h
 split at h
 ·
  rename_i hc
  obtain rfl:=Option.some.inj h
  exact awake7_walk k _ w hc.1 hc.2.1 hc.2.2
 ·
  exact absurd h (by simp)
end Go.Proofs.Ytonpekldcnankaa.X
end
section
namespace Go.Proofs.Ytonpekldcnankaa.X
open Go.RowKit Go.Proofs.YtonpekldcnankaaW.PrintWords Go.Proofs.YtonpekldcnankaaW.PrintLast Go.Proofs.YtonpekldcnankaaW.PrintMore Go.Proofs.Ytonpekldcnankaa.Ma
set_option linter.unusedVariables false
set_option linter.unusedSimpArgs false
theorem rg_C3 {W:World} {g:Nat} {t:TypeId} {A1 A2 A3:Option Addr} {c1 c2 c3:Nat} {l1 l2 l3:List Int} (h:W.heap[g]? = some (.cells #[.slice A1 l1.length c1,.slice A2 l2.length c2,.slice A3 l3.length c3] t (0,0))) (h1:Kd.C (Kd.int .u64) W A1 l1.length l1) (hc1:l1.length≤c1) (h2:Kd.C (Kd.int .u64) W A2 l2.length l2) (hc2:l2.length≤c2) (h3:Kd.C (Kd.int .u64) W A3 l3.length l3) (hc3:l3.length≤c3) :
    Kd.C (Kd.slice 24 (Kd.int .u64)) W (some ⟨g,0,none⟩) 3 [l1,l2,l3]:=by
  refine ⟨rfl,by decide,fun _ => ⟨_,rfl,fun j p hj => ?_⟩⟩
  match j,hj with
  | 0,hj =>
    obtain rfl:l1 = p:=by simpa using hj
    refine ⟨[.slice A1 l1.length c1],rfl,⟨A1,c1,rfl,hc1,h1⟩,fun i u hi => ?_⟩
    match i,hi with
    | 0,hi =>
      obtain rfl:Value.slice A1 l1.length c1 = u:=by simpa using hi
      exact (blk_cell h 0).trans rfl
    | i + 1,hi => exact absurd hi (by simp)
  | 1,hj =>
    obtain rfl:l2 = p:=by simpa using hj
    refine ⟨[.slice A2 l2.length c2],rfl,⟨A2,c2,rfl,hc2,h2⟩,fun i u hi => ?_⟩
    match i,hi with
    | 0,hi =>
      obtain rfl:Value.slice A2 l2.length c2 = u:=by simpa using hi
      exact (blk_cell h 1).trans rfl
    | i + 1,hi => exact absurd hi (by simp)
  | 2,hj =>
    obtain rfl:l3 = p:=by simpa using hj
    refine ⟨[.slice A3 l3.length c3],rfl,⟨A3,c3,rfl,hc3,h3⟩,fun i u hi => ?_⟩
    match i,hi with
    | 0,hi =>
      obtain rfl:Value.slice A3 l3.length c3 = u:=by simpa using hi
      exact (blk_cell h 2).trans rfl
    | i + 1,hi => exact absurd hi (by simp)
  | j + 3,hj => exact absurd hj (by simp)
structure LawX (M xa xb xc ns np nt nu nq nv ny nz:Nat):Prop where
  a:xa < M
  b:xb < M
  c:xc < M
  s:ns < M
  p:np < M
  u:nu < M
  v:nv < M
  z:nz < M
  s1:ns = (xa + xb) % M
  s2:ns = (xb + xa) % M
  p1:np = xa * xb % M
  p2:np = xb * xa % M
  d:xa = (ns + M - xb) % M
  t1:nt = (ns + xc) % M
  u1:nu = (xb + xc) % M
  t2:nt = (xa + nu) % M
  q1:nq = np * xc % M
  v1:nv = xb * xc % M
  q2:nq = xa * nv % M
  y1:ny = ns * xc % M
  z1:nz = xa * xc % M
  y2:ny = (nz + nv) % M
theorem lawX {M xa xb xc:Nat} (ha:xa < M) (hb:xb < M) (hc:xc < M):∃ s p t u q v y z,LawX M xa xb xc s p t u q v y z:=by
  have hM:0 < M:=by omega
  refine ⟨(xa + xb) % M,xa * xb % M,((xa + xb) % M + xc) % M,(xb + xc) % M,xa * xb % M * xc % M,xb * xc % M,(xa + xb) % M * xc % M,xa * xc % M,ha,hb,hc,Nat.mod_lt _ hM,Nat.mod_lt _ hM,Nat.mod_lt _ hM,Nat.mod_lt _ hM,Nat.mod_lt _ hM,rfl,by rw [Nat.add_comm],rfl,by rw [Nat.mul_comm],?_,rfl,rfl,?_,rfl,rfl,?_,rfl,rfl,?_⟩
  · rcases Nat.lt_or_ge (xa + xb) M with h | h
    · rw [Nat.mod_eq_of_lt h,show xa + xb + M - xb = xa + M by omega,Nat.add_mod_right,Nat.mod_eq_of_lt ha]
    · rw [Nat.mod_eq_sub_mod h,Nat.mod_eq_of_lt (show xa + xb - M < M by omega),show xa + xb - M + M - xb = xa by omega,Nat.mod_eq_of_lt ha]
  · rw [Nat.mod_add_mod,Nat.add_mod_mod,Nat.add_assoc]
  · rw [Nat.mod_mul_mod,Nat.mul_mod_mod,Nat.mul_assoc]
  · rw [Nat.mod_mul_mod,← Nat.add_mod,Nat.add_mul]
theorem same_loop (l:List Int):∀ (d i:Nat),i + d = l.length→l.length≤1000000000→sconceref03_Same.l0 (d + 1) l l (l.length:Int) (i:Int) = some true:=by
  intro d
  induction d with
  | zero =>
    intro i hi hn
    rw [sconceref03_Same.l0.eq_2,if_neg (by omega)]
  | succ d ih =>
    intro i hi hn
    have e:wrap64 ((i:Int) + 1) = ((i + 1:Nat):Int):=by rw [w64 (by omega) (by omega)];omega
    rw [sconceref03_Same.l0.eq_2,if_pos (by omega),if_pos (by omega),if_pos (by omega),if_pos (by omega),if_pos rfl,e]
    exact ih (i + 1) (by omega) hn
theorem same_all (n:Nat) (hn:n≤1000000000):∃ kS,∀ a,sconceref03_Same.f kS (wds n a) (wds n a) = some true:=by
  refine ⟨n + 1,fun a => ?_⟩
  have h:=same_loop (wds n a) n 0 (by rw [dgs_length];omega) (by rw [dgs_length];omega)
  unfold sconceref03_Same.f
  rw [if_pos rfl]
  exact h
theorem RingLaws_awake (k:Nat) (A0:Option Addr) (c0:Nat) (m0:List Int) (m1:Int) (A2:Option Addr) (c2:Nat) (m2:List Int) (Aa:Option Addr) (ca:Nat) (la:List Int) (Ab:Option Addr) (cb:Nat) (lb:List Int) (Ac:Option Addr) (cc:Nat) (lc:List Int) (w:World) (h1:sconcelaw07_awake.f k = some false) :
    Calls Try.prog 7 #[.agg #[.slice A0 m0.length c0,.int .u64 m1,.slice A2 m2.length c2],.slice Aa la.length ca,.slice Ab lb.length cb,.slice Ac lc.length cc] w fun e w' => e = .returned (.bool false)∧Below w.heap.size w w':=by
  have hu59:=Try.underlying26
  have H1:=Aside0.mk h1
  clear h1
  go_enter Try.func7,Try.ntmps7
  go_upto_region 1 with ((with_reducible refine gate_dst (N:=4) rfl ?_);refine box_event ?hg (N:=4) ?hd (cs:=#[.slice A0 m0.length c0,.int .u64 m1,.slice A2 m2.length c2]) (t:=26) ?hr ?_;(case hd => rfl);(case hg => rfl);(case hr => first | (go_simp;done) | (go_simp;rfl));intro gb hgb w3 hbox hb;have HB3:=Aside0.mk hb;clear hbox hb)
  go_wp2_with (go_at_call 16;(with_reducible refine (sconcelaw07_awake.calls k false _ H1.out).mono ?_);rintro e w4 ⟨rfl,hb4⟩;have HB4:=Aside0.mk hb4;clear hb4)
  go_ret
  exact ⟨rfl,below_then HB3.out HB3.out.size HB4.out⟩
theorem RingLaws_walk (k kS:Nat) (A0:Option Addr) (c0:Nat) (m0:List Int) (m1:Int) (A2:Option Addr) (c2:Nat) (m2:List Int) (Aa:Option Addr) (ca:Nat) (la:List Int) (Ab:Option Addr) (cb:Nat) (lb:List Int) (Ac:Option Addr) (cc:Nat) (lc:List Int) (few mem:Bool) (xa xb xc s p t u q v y z:Nat) (w:World) (hr0:Kd.C (Kd.int .u64) w A0 m0.length m0) (hc0:m0.length≤c0) (hr2:Kd.C (Kd.int .u64) w A2 m2.length m2) (hc2:m2.length≤c2) (hra:Kd.C (Kd.int .u64) w Aa la.length la) (hca:la.length≤ca) (hrb:Kd.C (Kd.int .u64) w Ab lb.length lb) (hcb:lb.length≤cb) (hrc:Kd.C (Kd.int .u64) w Ac lc.length lc) (hcc:lc.length≤cc)
    (h1:sconcelaw07_awake.f k = some true) (h2:sconcelaw07_Few.f k m0 m1 m2 [la,lb,lc] = some few) (h3:few = true→sconceref07_Members.f k m0 m1 m2 [la,lb,lc] = some mem)
    (hY:few = true→mem = true→LawX (nW m0) xa xb xc s p t u q v y z∧(la = wds m0.length xa∧lb = wds m0.length xb∧lc = wds m0.length xc) ∧
      (∀ a b,a < nW m0→b < nW m0→ring_Add.f k m0 m1 m2 (wds m0.length a) (wds m0.length b) = some (wds m0.length ((a + b) % nW m0),0))∧(∀ a b,a < nW m0→b < nW m0→ring_Sub.f k m0 m1 m2 (wds m0.length a) (wds m0.length b) = some (wds m0.length ((a + nW m0 - b) % nW m0),0)) ∧
      (∀ a b,a < nW m0→b < nW m0→ring_Mul.f k m0 m1 m2 (wds m0.length a) (wds m0.length b) = some (wds m0.length (a * b % nW m0),0))∧(∀ a,sconceref03_Same.f kS (wds m0.length a) (wds m0.length a) = some true)) :
    Calls Try.prog 7 #[.agg #[.slice A0 m0.length c0,.int .u64 m1,.slice A2 m2.length c2],.slice Aa la.length ca,.slice Ab lb.length cb,.slice Ac lc.length cc] w fun e w' => e = .returned (.bool true)∧Below w.heap.size w w':=by
  have hu59:=Try.underlying26
  have H0:=Aside0.mk hr0
  have H2:=Aside0.mk hr2
  have H1:=Aside0.mk h1
  have HF:=Aside0.mk h2
  have HME:=Aside0.mk h3
  have HYY:=Aside0.mk hY
  have HI:=Aside0.mk (And.intro hra (And.intro hrb hrc))
  clear hr0 hr2 h1 h2 h3 hY hra hrb hrc
  go_enter Try.func7,Try.ntmps7
  go_upto_region 1 with ((with_reducible refine gate_dst (N:=4) rfl ?_);refine box_event ?hg (N:=4) ?hd (cs:=#[.slice A0 m0.length c0,.int .u64 m1,.slice A2 m2.length c2]) (t:=26) ?hr ?_;(case hd => rfl);(case hg => rfl);(case hr => first | (go_simp;done) | (go_simp;rfl));intro gb hgb w3 hbox hb;subst hgb;have HX:=Aside0.mk hbox;have HB3:=Aside0.mk hb;clear hbox hb)
  have HZ:=Aside0.mk (fun (W:World) (hW:Below w3.heap.size w3 W) => And.intro ((blk_cell (blk_below HX.out hW) 0).trans rfl) (And.intro ((blk_cell (blk_below HX.out hW) 1).trans rfl) ((blk_cell (blk_below HX.out hW) 2).trans rfl)))
  go_upto_region 3 with (go_at_call 16;(with_reducible refine (sconcelaw07_awake.calls k true _ H1.out).mono ?_);rintro e w4 ⟨rfl,hb4⟩;have HB:=Aside0.mk hb4;clear hb4)
  obtain ⟨z0,z1,z2⟩:=HZ.out _ HB.out
  have HW:=Aside0.mk (fun (W:World) (hW:Below w3.heap.size w3 W) => below_then HB3.out HB3.out.size hW)
  have hlit:=fun (W:World) (hW:Below w3.heap.size w3 W) => rg_C3 (blk_new W (Obj.cells #[.slice Aa la.length ca,.slice Ab lb.length cb,.slice Ac lc.length cc] 23)) (Kd.C_below HI.out.1 (HW.out _ (below_alloc hW _))) hca (Kd.C_below HI.out.2.1 (HW.out _ (below_alloc hW _))) hcb (Kd.C_below HI.out.2.2 (HW.out _ (below_alloc hW _))) hcc
  have HFC:=Aside0.mk (show ∀ (W:World),Below w3.heap.size w3 W→Calls Try.prog 17 #[.agg #[.slice A0 m0.length c0,.int .u64 m1,.slice A2 m2.length c2],.slice (some ⟨W.heap.size,0,none⟩) 3 3] (W.alloc (Obj.cells #[.slice Aa la.length ca,.slice Ab lb.length cb,.slice Ac lc.length cc] 23)) fun e w' => e = .returned (.bool few)∧Below W.heap.size W w' from by
    intro W hW
    have hA:=HW.out _ (below_alloc hW (Obj.cells #[.slice Aa la.length ca,.slice Ab lb.length cb,.slice Ac lc.length cc] 23))
    refine (sconcelaw07_Few.calls k _ A0 c0 m0 m1 _ A2 c2 m2 _ 3 [la,lb,lc] few _ (Kd.V_mk hc0 (Kd.C_F (Kd.heap_int .u64) (Kd.C_below H0.out hA))) (Kd.V_mk hc2 (Kd.C_F (Kd.heap_int .u64) (Kd.C_below H2.out hA))) (hlit W hW) (by simp) HF.out).mono ?_
    rintro e w' ⟨rfl,hb⟩
    exact ⟨rfl,below_then (below_alloc (Below.refl _ _) _) (below_alloc (Below.refl _ _) _).size hb⟩)
  have HLIT:=Aside0.mk hlit
  clear hlit
  cases few with
  | false =>
    go_wp2_with (go_at_call 17;(with_reducible refine (HFC.out _ HB.out).mono ?_);rintro e w5 ⟨rfl,hb5⟩;have HB5:=Aside0.mk hb5;clear hb5)
    go_ret
    exact ⟨rfl,HW.out _ (below_then HB.out HB.out.size HB5.out)⟩
  | true =>
  have hme:=HME.out rfl
  have HMC:=Aside0.mk (show ∀ (W:World),Below w3.heap.size w3 W→Calls Try.prog 34 #[.agg #[.slice A0 m0.length c0,.int .u64 m1,.slice A2 m2.length c2],.slice (some ⟨W.heap.size,0,none⟩) 3 3] (W.alloc (Obj.cells #[.slice Aa la.length ca,.slice Ab lb.length cb,.slice Ac lc.length cc] 23)) fun e w' => e = .returned (.bool mem)∧Below W.heap.size W w' from by
    intro W hW
    have hA:=HW.out _ (below_alloc hW (Obj.cells #[.slice Aa la.length ca,.slice Ab lb.length cb,.slice Ac lc.length cc] 23))
    refine (sconceref07_Members.calls k A0 c0 m0 m1 A2 c2 m2 _ 3 [la,lb,lc] mem _ (Kd.C_below H0.out hA) hc0 (Kd.C_below H2.out hA) hc2 (HLIT.out W hW) (by simp) hme).mono ?_
    rintro e w' ⟨rfl,hb⟩
    exact ⟨rfl,below_then (below_alloc (Below.refl _ _) _) (below_alloc (Below.refl _ _) _).size hb⟩)
  clear hme HME HF
  cases mem with
  | false =>
    go_wp2_with (first
      | (go_at_call 17;(with_reducible refine (HFC.out _ HB.out).mono ?_);rintro e w5 ⟨rfl,hb5⟩;have HB:=Aside0.mk (below_then HB.out HB.out.size hb5);obtain ⟨z0',z1',z2'⟩:=HZ.out _ HB.out;clear hb5)
      | (go_at_call 34;(with_reducible refine (HMC.out _ HB.out).mono ?_);rintro e w6 ⟨rfl,hb5⟩;have HB:=Aside0.mk (below_then HB.out HB.out.size hb5);clear hb5))
    go_ret
    exact ⟨rfl,HW.out _ HB.out⟩
  | true =>
  obtain ⟨hx,⟨rfl,rfl,rfl⟩,f1,f2,f3,f4⟩:=HYY.out rfl rfl
  simp only [dgs_length] at HI hca hcb hcc HFC HMC ⊢
  have HSum:=Aside0.mk (show ∀ {x y r:Nat} (_:x < nW m0) (_:y < nW m0) (_:r = (x + y) % nW m0) (W:World) (A1:Option Addr) (c1:Nat) (A3:Option Addr) (c3:Nat),Below w3.heap.size w3 W→Rw m0.length W A1 c1 x→Rw m0.length W A3 c3 y→Calls Try.prog 22 #[.agg #[.slice A0 m0.length c0,.int .u64 m1,.slice A2 m2.length c2],.slice A1 m0.length c1,.slice A3 m0.length c3] W fun e w' => ∃ A c,e = .returned (.slice A m0.length c)∧Rw m0.length w' A c r∧Below W.heap.size W w' from by
    intro x y r hx hy hr W A1 c1 A3 c3 hW h1 h2
    have hf:sconcelaw07_sum.f k m0 m1 m2 (wds m0.length x) (wds m0.length y) = some (wds m0.length r):=by unfold sconcelaw07_sum.f;rw [f1 x y hx hy,hr];rfl
    have h:=sconcelaw07_sum.calls k A0 c0 m0 m1 A2 c2 m2 A1 c1 (wds m0.length x) A3 c3 (wds m0.length y) _ W (Kd.C_below H0.out (HW.out _ hW)) hc0 (Kd.C_below H2.out (HW.out _ hW)) hc2 (by rw [dgs_length];exact h1.1) (by rw [dgs_length];exact h1.2) (by rw [dgs_length];exact h2.1) (by rw [dgs_length];exact h2.2) hf
    rw [dgs_length,dgs_length] at h
    refine h.mono ?_
    rintro e w' ⟨v,rfl,g1,g2⟩
    obtain ⟨A,c,rfl,g3⟩:=Rw.of_R g1
    exact ⟨A,c,rfl,g3,g2⟩)
  have HPro:=Aside0.mk (show ∀ {x y r:Nat} (_:x < nW m0) (_:y < nW m0) (_:r = x * y % nW m0) (W:World) (A1:Option Addr) (c1:Nat) (A3:Option Addr) (c3:Nat),Below w3.heap.size w3 W→Rw m0.length W A1 c1 x→Rw m0.length W A3 c3 y→Calls Try.prog 35 #[.agg #[.slice A0 m0.length c0,.int .u64 m1,.slice A2 m2.length c2],.slice A1 m0.length c1,.slice A3 m0.length c3] W fun e w' => ∃ A c,e = .returned (.slice A m0.length c)∧Rw m0.length w' A c r∧Below W.heap.size W w' from by
    intro x y r hx hy hr W A1 c1 A3 c3 hW h1 h2
    have hf:sconcelaw07_product.f k m0 m1 m2 (wds m0.length x) (wds m0.length y) = some (wds m0.length r):=by unfold sconcelaw07_product.f;rw [f3 x y hx hy,hr];rfl
    have h:=sconcelaw07_product.calls k A0 c0 m0 m1 A2 c2 m2 A1 c1 (wds m0.length x) A3 c3 (wds m0.length y) _ W (Kd.C_below H0.out (HW.out _ hW)) hc0 (Kd.C_below H2.out (HW.out _ hW)) hc2 (by rw [dgs_length];exact h1.1) (by rw [dgs_length];exact h1.2) (by rw [dgs_length];exact h2.1) (by rw [dgs_length];exact h2.2) hf
    rw [dgs_length,dgs_length] at h
    refine h.mono ?_
    rintro e w' ⟨v,rfl,g1,g2⟩
    obtain ⟨A,c,rfl,g3⟩:=Rw.of_R g1
    exact ⟨A,c,rfl,g3,g2⟩)
  have HDif:=Aside0.mk (show ∀ {x y r:Nat} (_:x < nW m0) (_:y < nW m0) (_:r = (x + nW m0 - y) % nW m0) (W:World) (A1:Option Addr) (c1:Nat) (A3:Option Addr) (c3:Nat),Below w3.heap.size w3 W→Rw m0.length W A1 c1 x→Rw m0.length W A3 c3 y→Calls Try.prog 36 #[.agg #[.slice A0 m0.length c0,.int .u64 m1,.slice A2 m2.length c2],.slice A1 m0.length c1,.slice A3 m0.length c3] W fun e w' => ∃ A c,e = .returned (.slice A m0.length c)∧Rw m0.length w' A c r∧Below W.heap.size W w' from by
    intro x y r hx hy hr W A1 c1 A3 c3 hW h1 h2
    have hf:sconcelaw07_difference.f k m0 m1 m2 (wds m0.length x) (wds m0.length y) = some (wds m0.length r):=by unfold sconcelaw07_difference.f;rw [f2 x y hx hy,hr];rfl
    have h:=sconcelaw07_difference.calls k A0 c0 m0 m1 A2 c2 m2 A1 c1 (wds m0.length x) A3 c3 (wds m0.length y) _ W (Kd.C_below H0.out (HW.out _ hW)) hc0 (Kd.C_below H2.out (HW.out _ hW)) hc2 (by rw [dgs_length];exact h1.1) (by rw [dgs_length];exact h1.2) (by rw [dgs_length];exact h2.1) (by rw [dgs_length];exact h2.2) hf
    rw [dgs_length,dgs_length] at h
    refine h.mono ?_
    rintro e w' ⟨v,rfl,g1,g2⟩
    obtain ⟨A,c,rfl,g3⟩:=Rw.of_R g1
    exact ⟨A,c,rfl,g3,g2⟩)
  have HSame:=Aside0.mk (show ∀ (x:Nat) (W:World) (A1:Option Addr) (c1:Nat) (A3:Option Addr) (c3:Nat),Rw m0.length W A1 c1 x→Rw m0.length W A3 c3 x→Calls Try.prog 21 #[.slice A1 m0.length c1,.slice A3 m0.length c3] W fun e w' => e = .returned (.bool true)∧Below W.heap.size W w' from by
    intro x W A1 c1 A3 c3 h1 h2
    have h:=sconceref03_Same.calls kS A1 c1 (wds m0.length x) A3 c3 (wds m0.length x) true W (by rw [dgs_length];exact h1.1) (by rw [dgs_length];exact h1.2) (by rw [dgs_length];exact h2.1) (by rw [dgs_length];exact h2.2) (f4 x)
    rw [dgs_length] at h
    refine h.mono ?_
    rintro e w' ⟨rfl,n,rfl⟩
    exact ⟨rfl,pw_below_drewN (Below.refl _ _) n⟩)
  have RA:=Aside0.mk (fun (W:World) (hW:Below w3.heap.size w3 W) => (show Rw m0.length W Aa ca xa from ⟨Kd.C_below HI.out.1 (HW.out _ hW),hca⟩))
  have RB:=Aside0.mk (fun (W:World) (hW:Below w3.heap.size w3 W) => (show Rw m0.length W Ab cb xb from ⟨Kd.C_below HI.out.2.1 (HW.out _ hW),hcb⟩))
  have RC:=Aside0.mk (fun (W:World) (hW:Below w3.heap.size w3 W) => (show Rw m0.length W Ac cc xc from ⟨Kd.C_below HI.out.2.2 (HW.out _ hW),hcc⟩))
  clear f1 f2 f3 f4 HI HYY HLIT H0 H2
  go_upto_region 5 with (first
      | (go_at_call 17;(with_reducible refine (HFC.out _ HB.out).mono ?_);rintro e w5 ⟨rfl,hb5⟩;have HB:=Aside0.mk (below_then HB.out HB.out.size hb5);obtain ⟨z0',z1',z2'⟩:=HZ.out _ HB.out;clear hb5)
      | (go_at_call 34;(with_reducible refine (HMC.out _ HB.out).mono ?_);rintro e w6 ⟨rfl,hb5⟩;have HB:=Aside0.mk (below_then HB.out HB.out.size hb5);clear hb5))
  clear z0 z1 z2
  obtain ⟨z0,z1,z2⟩:=HZ.out _ HB.out
  go_upto_region 6 with (go_at_call 22;(with_reducible refine (HSum.out hx.a hx.b hx.s1 _ _ _ _ _ HB.out (RA.out _ HB.out) (RB.out _ HB.out)).mono ?_);rintro e w7 ⟨As,cs,rfl,r7,hb7⟩;have HB:=Aside0.mk (below_then HB.out HB.out.size hb7);have Rs:=Aside0.mk r7;clear r7 hb7)
  clear z0 z1 z2
  replace HB:=Aside0.mk (Below.drew HB.out)
  replace Rs:=Aside0.mk (Rs.out.drew)
  have hz:=HZ.out _ HB.out
  go_region_held3 (fun w' => w'.cell? ⟨w.heap.size,0,none⟩ = some (.slice A0 m0.length c0)∧w'.cell? ⟨w.heap.size,1,none⟩ = some (.int .u64 m1)∧w'.cell? ⟨w.heap.size,2,none⟩ = some (.slice A2 m2.length c2)) (first | exact HZ.out _ HB.out) (first
    | (go_at_call 22;(with_reducible refine (HSum.out hx.b hx.a hx.s2 _ _ _ _ _ HB.out (RB.out _ HB.out) (RA.out _ HB.out)).mono ?_);rintro e w10 ⟨P1,d1,rfl,r10,hb10⟩;have HB:=Aside0.mk (below_then HB.out HB.out.size hb10);have Rs:=Aside0.mk (Rs.out.below hb10);have R1:=Aside0.mk r10;clear r10 hb10)
    | (go_at_call 21;(with_reducible refine (HSame.out s _ _ _ _ _ Rs.out R1.out).mono ?_);rintro e w11 ⟨rfl,hb11⟩;have HB:=Aside0.mk (below_then HB.out HB.out.size hb11);have Rs:=Aside0.mk (Rs.out.below hb11);clear hb11)
    | (go_at_call 35;(with_reducible refine (HPro.out hx.a hx.b hx.p1 _ _ _ _ _ HB.out (RA.out _ HB.out) (RB.out _ HB.out)).mono ?_);rintro e w12 ⟨P2,d2,rfl,r12,hb12⟩;have HB:=Aside0.mk (below_then HB.out HB.out.size hb12);have Rs:=Aside0.mk (Rs.out.below hb12);have R2:=Aside0.mk r12;clear r12 hb12)
    | (go_at_call 35;(with_reducible refine (HPro.out hx.b hx.a hx.p2 _ _ _ _ _ HB.out (RB.out _ HB.out) (RA.out _ HB.out)).mono ?_);rintro e w13 ⟨P3,d3,rfl,r13,hb13⟩;have HB:=Aside0.mk (below_then HB.out HB.out.size hb13);have Rs:=Aside0.mk (Rs.out.below hb13);have R2:=Aside0.mk (R2.out.below hb13);have R3:=Aside0.mk r13;clear r13 hb13)
    | (go_at_call 21;(with_reducible refine (HSame.out p _ _ _ _ _ R2.out R3.out).mono ?_);rintro e w14 ⟨rfl,hb14⟩;have HB:=Aside0.mk (below_then HB.out HB.out.size hb14);have Rs:=Aside0.mk (Rs.out.below hb14);clear hb14)
    | (go_at_call 36;(with_reducible refine (HDif.out hx.s hx.b hx.d _ _ _ _ _ HB.out Rs.out (RB.out _ HB.out)).mono ?_);rintro e w15 ⟨P4,d4,rfl,r15,hb15⟩;have HB:=Aside0.mk (below_then HB.out HB.out.size hb15);have Rs:=Aside0.mk (Rs.out.below hb15);have R4:=Aside0.mk r15;clear r15 hb15)
    | (go_at_call 21;(with_reducible refine (HSame.out xa _ _ _ _ _ R4.out (RA.out _ HB.out)).mono ?_);rintro e w16 ⟨rfl,hb16⟩;have HB:=Aside0.mk (below_then HB.out HB.out.size hb16);have Rs:=Aside0.mk (Rs.out.below hb16);clear hb16))
  go_upto_region 8 with (fail)
  replace HB:=Aside0.mk (Below.drew HB.out)
  replace Rs:=Aside0.mk (Rs.out.drew)
  have hz:=HZ.out _ HB.out
  go_region_held3 (fun w' => w'.cell? ⟨w.heap.size,0,none⟩ = some (.slice A0 m0.length c0)∧w'.cell? ⟨w.heap.size,1,none⟩ = some (.int .u64 m1)∧w'.cell? ⟨w.heap.size,2,none⟩ = some (.slice A2 m2.length c2)) (first | exact HZ.out _ HB.out) (first
    | (go_at_call 22;(with_reducible refine (HSum.out hx.s hx.c hx.t1 _ _ _ _ _ HB.out Rs.out (RC.out _ HB.out)).mono ?_);rintro e w20 ⟨P1,d1,rfl,r20,hb20⟩;have HB:=Aside0.mk (below_then HB.out HB.out.size hb20);have Rs:=Aside0.mk (Rs.out.below hb20);have R1:=Aside0.mk r20;clear r20 hb20)
    | (go_at_call 22;(with_reducible refine (HSum.out hx.b hx.c hx.u1 _ _ _ _ _ HB.out (RB.out _ HB.out) (RC.out _ HB.out)).mono ?_);rintro e w21 ⟨P2,d2,rfl,r21,hb21⟩;have HB:=Aside0.mk (below_then HB.out HB.out.size hb21);have Rs:=Aside0.mk (Rs.out.below hb21);have R1:=Aside0.mk (R1.out.below hb21);have R2:=Aside0.mk r21;clear r21 hb21)
    | (go_at_call 22;(with_reducible refine (HSum.out hx.a hx.u hx.t2 _ _ _ _ _ HB.out (RA.out _ HB.out) R2.out).mono ?_);rintro e w22 ⟨P3,d3,rfl,r22,hb22⟩;have HB:=Aside0.mk (below_then HB.out HB.out.size hb22);have Rs:=Aside0.mk (Rs.out.below hb22);have R1:=Aside0.mk (R1.out.below hb22);have R3:=Aside0.mk r22;clear r22 hb22)
    | (go_at_call 21;(with_reducible refine (HSame.out t _ _ _ _ _ R1.out R3.out).mono ?_);rintro e w23 ⟨rfl,hb23⟩;have HB:=Aside0.mk (below_then HB.out HB.out.size hb23);have Rs:=Aside0.mk (Rs.out.below hb23);clear hb23)
    | (go_at_call 35;(with_reducible refine (HPro.out hx.a hx.b hx.p1 _ _ _ _ _ HB.out (RA.out _ HB.out) (RB.out _ HB.out)).mono ?_);rintro e w24 ⟨P4,d4,rfl,r24,hb24⟩;have HB:=Aside0.mk (below_then HB.out HB.out.size hb24);have Rs:=Aside0.mk (Rs.out.below hb24);have R4:=Aside0.mk r24;clear r24 hb24)
    | (go_at_call 35;(with_reducible refine (HPro.out hx.p hx.c hx.q1 _ _ _ _ _ HB.out R4.out (RC.out _ HB.out)).mono ?_);rintro e w25 ⟨P5,d5,rfl,r25,hb25⟩;have HB:=Aside0.mk (below_then HB.out HB.out.size hb25);have Rs:=Aside0.mk (Rs.out.below hb25);have R5:=Aside0.mk r25;clear r25 hb25)
    | (go_at_call 35;(with_reducible refine (HPro.out hx.b hx.c hx.v1 _ _ _ _ _ HB.out (RB.out _ HB.out) (RC.out _ HB.out)).mono ?_);rintro e w26 ⟨P6,d6,rfl,r26,hb26⟩;have HB:=Aside0.mk (below_then HB.out HB.out.size hb26);have Rs:=Aside0.mk (Rs.out.below hb26);have R5:=Aside0.mk (R5.out.below hb26);have R6:=Aside0.mk r26;clear r26 hb26)
    | (go_at_call 35;(with_reducible refine (HPro.out hx.a hx.v hx.q2 _ _ _ _ _ HB.out (RA.out _ HB.out) R6.out).mono ?_);rintro e w27 ⟨P7,d7,rfl,r27,hb27⟩;have HB:=Aside0.mk (below_then HB.out HB.out.size hb27);have Rs:=Aside0.mk (Rs.out.below hb27);have R5:=Aside0.mk (R5.out.below hb27);have R7:=Aside0.mk r27;clear r27 hb27)
    | (go_at_call 21;(with_reducible refine (HSame.out q _ _ _ _ _ R5.out R7.out).mono ?_);rintro e w28 ⟨rfl,hb28⟩;have HB:=Aside0.mk (below_then HB.out HB.out.size hb28);have Rs:=Aside0.mk (Rs.out.below hb28);clear hb28))
  go_upto_region 10 with (fail)
  replace HB:=Aside0.mk (Below.drew HB.out)
  replace Rs:=Aside0.mk (Rs.out.drew)
  have hz:=HZ.out _ HB.out
  go_region_held3 (fun w' => w'.cell? ⟨w.heap.size,0,none⟩ = some (.slice A0 m0.length c0)∧w'.cell? ⟨w.heap.size,1,none⟩ = some (.int .u64 m1)∧w'.cell? ⟨w.heap.size,2,none⟩ = some (.slice A2 m2.length c2)) (first | exact HZ.out _ HB.out) (first
    | (go_at_call 35;(with_reducible refine (HPro.out hx.s hx.c hx.y1 _ _ _ _ _ HB.out Rs.out (RC.out _ HB.out)).mono ?_);rintro e w30 ⟨P1,d1,rfl,r30,hb30⟩;have HB:=Aside0.mk (below_then HB.out HB.out.size hb30);have Rs:=Aside0.mk (Rs.out.below hb30);have R1:=Aside0.mk r30;clear r30 hb30)
    | (go_at_call 35;(with_reducible refine (HPro.out hx.a hx.c hx.z1 _ _ _ _ _ HB.out (RA.out _ HB.out) (RC.out _ HB.out)).mono ?_);rintro e w31 ⟨P2,d2,rfl,r31,hb31⟩;have HB:=Aside0.mk (below_then HB.out HB.out.size hb31);have R1:=Aside0.mk (R1.out.below hb31);have R2:=Aside0.mk r31;clear r31 hb31)
    | (go_at_call 35;(with_reducible refine (HPro.out hx.b hx.c hx.v1 _ _ _ _ _ HB.out (RB.out _ HB.out) (RC.out _ HB.out)).mono ?_);rintro e w32 ⟨P3,d3,rfl,r32,hb32⟩;have HB:=Aside0.mk (below_then HB.out HB.out.size hb32);have R1:=Aside0.mk (R1.out.below hb32);have R2:=Aside0.mk (R2.out.below hb32);have R3:=Aside0.mk r32;clear r32 hb32)
    | (go_at_call 22;(with_reducible refine (HSum.out hx.z hx.v hx.y2 _ _ _ _ _ HB.out R2.out R3.out).mono ?_);rintro e w33 ⟨P4,d4,rfl,r33,hb33⟩;have HB:=Aside0.mk (below_then HB.out HB.out.size hb33);have R1:=Aside0.mk (R1.out.below hb33);have R4:=Aside0.mk r33;clear r33 hb33)
    | (go_at_call 21;(with_reducible refine (HSame.out y _ _ _ _ _ R1.out R4.out).mono ?_);rintro e w34 ⟨rfl,hb34⟩;have HB:=Aside0.mk (below_then HB.out HB.out.size hb34);clear hb34))
  go_wp2
  go_ret
  exact ⟨rfl,HW.out _ HB.out⟩
theorem rl_out {k:Nat} {m0 m2:List Int} {m1:Int} (hC:mont_Check.f k m0 m1 m2 = some true) (hm:Wd m0) (lm:m0.length≤300) {x y:Nat} (hx:x < nW m0) (hy:y < nW m0) (v:List Int):Rg.out (mont_Check.f k m0 m1 m2) m0 [wds m0.length x,wds m0.length y] v = some (v,0):=by
  have hM:=nW_lt hm
  unfold Rg.out
  rw [if_pos (Rg.ok_iff.2 ⟨⟨hm,by simp [wds_Wd]⟩,lm⟩),hC,Option.bind_some,if_pos ⟨rfl,Rg.mem_iff.2 (by simp only [List.mem_cons,List.not_mem_nil,or_false];rintro r (rfl | rfl);exact ⟨dgs_length _ _ _,by rw [nW_wds (by omega)];exact hx⟩;exact ⟨dgs_length _ _ _,by rw [nW_wds (by omega)];exact hy⟩)⟩]
theorem RingLaws_calls (k:Nat) (A0:Option Addr) (c0:Nat) (m0:List Int) (m1:Int) (A2:Option Addr) (c2:Nat) (m2:List Int) (Aa:Option Addr) (ca:Nat) (la:List Int) (Ab:Option Addr) (cb:Nat) (lb:List Int) (Ac:Option Addr) (cc:Nat) (lc:List Int) (r:Bool) (w:World) (hr0:Kd.C (Kd.int .u64) w A0 m0.length m0) (hc0:m0.length≤c0) (hr2:Kd.C (Kd.int .u64) w A2 m2.length m2) (hc2:m2.length≤c2) (hra:Kd.C (Kd.int .u64) w Aa la.length la) (hca:la.length≤ca) (hrb:Kd.C (Kd.int .u64) w Ab lb.length lb) (hcb:lb.length≤cb) (hrc:Kd.C (Kd.int .u64) w Ac lc.length lc) (hcc:lc.length≤cc)
    (h:((sconcelaw07_awake.f k).bind fun t => if t = true then (sconcelaw07_Few.f k m0 m1 m2 [la,lb,lc]).bind fun t => if t = true then (sconceref07_Members.f k m0 m1 m2 [la,lb,lc]).bind fun t => if t = true then (if Rg.ok m0 [la,lb,lc] = true∧Rg.mem m0 [la,lb,lc] = true then (mont_Check.f k m0 m1 m2).bind fun t => if t = true then some true else none else none) else some true else some true else some false) = some r) :
    Calls Try.prog 7 #[.agg #[.slice A0 m0.length c0,.int .u64 m1,.slice A2 m2.length c2],.slice Aa la.length ca,.slice Ab lb.length cb,.slice Ac lc.length cc] w fun e w' => e = .returned (.bool r)∧Below w.heap.size w w':=by
  cases e1:sconcelaw07_awake.f k with
  | none => rw [e1] at h;exact absurd h (by simp)
  | some t1 =>
  rw [e1,Option.bind_some] at h
  cases t1 with
  | false =>
    rw [if_neg (by decide)] at h
    obtain rfl:=Option.some.inj h
    exact RingLaws_awake k A0 c0 m0 m1 A2 c2 m2 Aa ca la Ab cb lb Ac cc lc w e1
  | true =>
  rw [if_pos rfl] at h
  cases e2:sconcelaw07_Few.f k m0 m1 m2 [la,lb,lc] with
  | none => rw [e2] at h;exact absurd h (by simp)
  | some t2 =>
  rw [e2,Option.bind_some] at h
  have go:∀ (mem:Bool) (xa xb xc s p t u q v y z kS:Nat),(t2 = true→sconceref07_Members.f k m0 m1 m2 [la,lb,lc] = some mem)→_→r = true→Calls Try.prog 7 #[.agg #[.slice A0 m0.length c0,.int .u64 m1,.slice A2 m2.length c2],.slice Aa la.length ca,.slice Ab lb.length cb,.slice Ac lc.length cc] w fun e w' => e = .returned (.bool r)∧Below w.heap.size w w':=fun mem xa xb xc s p t u q v y z kS g1 g2 g3 => by
    rw [g3]
    exact RingLaws_walk k kS A0 c0 m0 m1 A2 c2 m2 Aa ca la Ab cb lb Ac cc lc t2 mem xa xb xc s p t u q v y z w hr0 hc0 hr2 hc2 hra hca hrb hcb hrc hcc e1 e2 g1 g2
  cases t2 with
  | false =>
    rw [if_neg (by decide)] at h
    exact go false 0 0 0 0 0 0 0 0 0 0 0 0 (fun g => absurd g (by decide)) (fun g => absurd g (by decide)) (Option.some.inj h).symm
  | true =>
  rw [if_pos rfl] at h
  cases e3:sconceref07_Members.f k m0 m1 m2 [la,lb,lc] with
  | none => rw [e3] at h;exact absurd h (by simp)
  | some t3 =>
  rw [e3,Option.bind_some] at h
  cases t3 with
  | false =>
    rw [if_neg (by decide)] at h
    exact go false 0 0 0 0 0 0 0 0 0 0 0 0 (fun _ => e3) (fun _ g => absurd g (by decide)) (Option.some.inj h).symm
  | true =>
  rw [if_pos rfl] at h
  split at h
  · rename_i hk
    obtain ⟨hk1,hk2⟩:=hk
    obtain ⟨⟨hm,hls⟩,lm⟩:=Rg.ok_iff.1 hk1
    have hmem:=Rg.mem_iff.1 hk2
    cases e4:mont_Check.f k m0 m1 m2 with
    | none => rw [e4] at h;exact absurd h (by simp)
    | some t4 =>
    rw [e4,Option.bind_some] at h
    cases t4 with
    | false => exact absurd h (by simp)
    | true =>
    have ma:=hmem la (by simp)
    have mb:=hmem lb (by simp)
    have mc:=hmem lc (by simp)
    have hM:=nW_lt hm
    obtain ⟨s,p,t,u,q,v,y,z,hx⟩:=lawX ma.2 mb.2 mc.2
    have hS:∃ kS,∀ a,sconceref03_Same.f kS (wds m0.length a) (wds m0.length a) = some true:=by
      obtain ⟨K0,hK⟩:=same_all m0.length (by omega)
      exact ⟨K0,hK⟩
    obtain ⟨kS,hS⟩:=hS
    refine go true _ _ _ s p t u q v y z kS (fun _ => e3) (fun _ _ => ⟨hx,⟨?_,?_,?_⟩,fun a b ha hb => ?_,fun a b ha hb => ?_,fun a b ha hb => ?_,hS⟩) (by simpa using h.symm)
    · rw [← ma.1];exact Wd_eq (hls la (by simp))
    · rw [← mb.1];exact Wd_eq (hls lb (by simp))
    · rw [← mc.1];exact Wd_eq (hls lc (by simp))
    · have h':ring_Add.f k m0 m1 m2 (wds m0.length a) (wds m0.length b) = _:=rl_out e4 hm lm ha hb _
      rw [h',show num 18446744073709551616 (wds m0.length a) = a from nW_wds (by omega),show num 18446744073709551616 (wds m0.length b) = b from nW_wds (by omega)]
    · have h':ring_Sub.f k m0 m1 m2 (wds m0.length a) (wds m0.length b) = _:=rl_out e4 hm lm ha hb _
      rw [h',show num 18446744073709551616 (wds m0.length a) = a from nW_wds (by omega),show num 18446744073709551616 (wds m0.length b) = b from nW_wds (by omega)]
    · have h':ring_Mul.f k m0 m1 m2 (wds m0.length a) (wds m0.length b) = _:=rl_out e4 hm lm ha hb _
      rw [h',show num 18446744073709551616 (wds m0.length a) = a from nW_wds (by omega),show num 18446744073709551616 (wds m0.length b) = b from nW_wds (by omega)]
  · exact absurd h (by simp)
end Go.Proofs.Ytonpekldcnankaa.X
end
section
namespace Go.Proofs.Ytonpekldcnankaa.X
open Go.RowKit Go.Proofs.YtonpekldcnankaaW.PrintWords Go.Proofs.YtonpekldcnankaaW.PrintLast Go.Proofs.YtonpekldcnankaaW.PrintMore
attribute [local go_sem] max2_int min2_int max_two min_two max_three min_three max_four min_four
set_option linter.unusedVariables false
set_option linter.unusedSimpArgs false
def sconcelaw07_RingLaws.f (k:Nat) (m0:List Int) (m1:Int) (m2:List Int) (la lb lc:List Int):Option Bool :=
 (sconcelaw07_awake.f k).bind fun t => if t = true then (sconcelaw07_Few.f k m0 m1 m2 [la,lb,lc]).bind fun t => if t = true then (sconceref07_Members.f k m0 m1 m2 [la,lb,lc]).bind fun t => if t = true then (if Rg.ok m0 [la,lb,lc] = true∧Rg.mem m0 [la,lb,lc] = true then (mont_Check.f k m0 m1 m2).bind fun t => if t = true then some true else none else none) else some true else some true else some false
theorem sconcelaw07_RingLaws.calls (k:Nat) (A0_0:Option Addr) (c0_0:Nat) (l0_0:List Int) (a0_1:Int) (A0_2:Option Addr) (c0_2:Nat) (l0_2:List Int) (A1:Option Addr) (c1:Nat) (l1:List Int) (A2:Option Addr) (c2:Nat) (l2:List Int) (A3:Option Addr) (c3:Nat) (l3:List Int) (r:Bool) (w:World) (hr0_0:Kd.C (Kd.int .u64) w A0_0 l0_0.length l0_0) (hc0_0:l0_0.length≤c0_0) (hr0_2:Kd.C (Kd.int .u64) w A0_2 l0_2.length l0_2) (hc0_2:l0_2.length≤c0_2) (hr1:Kd.C (Kd.int .u64) w A1 l1.length l1) (hc1:l1.length≤c1) (hr2:Kd.C (Kd.int .u64) w A2 l2.length l2) (hc2:l2.length≤c2) (hr3:Kd.C (Kd.int .u64) w A3 l3.length l3) (hc3:l3.length≤c3) (h:sconcelaw07_RingLaws.f k l0_0 a0_1 l0_2 l1 l2 l3 = some r) :
  Calls Try.prog 7 #[.agg #[.slice A0_0 l0_0.length c0_0,.int .u64 a0_1,.slice A0_2 l0_2.length c0_2],.slice A1 l1.length c1,.slice A2 l2.length c2,.slice A3 l3.length c3] w fun e w' => e = .returned (.bool r)∧Below w.heap.size w w' :=
 RingLaws_calls k A0_0 c0_0 l0_0 a0_1 A0_2 c0_2 l0_2 A1 c1 l1 A2 c2 l2 A3 c3 l3 r w hr0_0 hc0_0 hr0_2 hc0_2 hr1 hc1 hr2 hc2 hr3 hc3 h
end Go.Proofs.Ytonpekldcnankaa.X
end
section
namespace Go.Proofs.Ytonpekldcnankaa.X
open Go.RowKit
def sconcelaw07_RingLaws.PureS:Prop:=∀ (l0_0:List Int) (b0_1:Int) (l0_2:List Int) (l1:List Int) (l2:List Int) (l3:List Int),l0_0.length≤maxLen→(∀ x ∈ l0_0,(Lit.int .u64 x).wf = true)→(Lit.int .u64 b0_1).wf = true→l0_2.length≤maxLen→(∀ x ∈ l0_2,(Lit.int .u64 x).wf = true)→l1.length≤maxLen→(∀ x ∈ l1,(Lit.int .u64 x).wf = true)→l2.length≤maxLen→(∀ x ∈ l2,(Lit.int .u64 x).wf = true)→l3.length≤maxLen→(∀ x ∈ l3,(Lit.int .u64 x).wf = true)→∃ k,sconcelaw07_RingLaws.f k l0_0 b0_1 l0_2 l1 l2 l3 = some true
end Go.Proofs.Ytonpekldcnankaa.X
end
section
namespace Go.Proofs.Ytonpekldcnankaa.X
open Go.RowKit Go.Proofs.YtonpekldcnankaaW.PrintWords Go.Proofs.YtonpekldcnankaaW.PrintMore Go.Proofs.YtonpekldcnankaaW.PrintLast Go.Proofs.Ytonpekldcnankaa.Ma
set_option linter.unusedVariables false
set_option linter.unusedSimpArgs false
theorem ref7_loop {m rr:List Int} {K:Int} (hm:Wd m) (lm:m.length≤1000) (ls:List (List Int)) (hls:∀ r ∈ ls,Wd r) (hn:ls.length≤1000000):∀ (d i:Nat),i + d = ls.length →
    Ev (fun k => sconceref07_Members.l0 k ls (ls.length:Int) (i:Int) m K rr) ((ls.drop i).all (memB m)):=by
  intro d
  induction d with
  | zero =>
    intro i hi
    refine Ev.step (fun k => sconceref07_Members.l0.eq_2 ..) (ev_neg (by omega) (ev_const ?_))
    rw [List.drop_eq_nil_of_le (by omega)]
    rfl
  | succ d ih =>
    intro i hi
    have hil:i < ls.length:=by omega
    have e:rd_L2 ls (i:Int) = ls[i]:=by rw [rdLI,List.getD_eq_getElem?_getD,List.getElem?_eq_getElem hil,Option.getD_some]
    have e2:wrap64 ((i:Int) + 1) = ((i + 1:Nat):Int):=by rw [w64 (by omega) (by omega)];omega
    refine Ev.step (fun k => sconceref07_Members.l0.eq_2 ..) (ev_pos (by omega) (ev_pos (by omega) (ev_pos (by omega) ?_)))
    rw [e,e2]
    refine ev_bind (sp_ref6_Member hm lm (hls _ (List.getElem_mem hil))) ?_
    rw [List.drop_eq_getElem_cons hil,List.all_cons]
    by_cases h:memB m ls[i] = true
    · rw [h,Bool.true_and]
      exact ev_pos rfl (ih (i + 1) (by omega))
    · rw [Bool.not_eq_true] at h
      rw [h,Bool.false_and]
      exact ev_neg (by decide) (ev_const rfl)
theorem sp_ref7_Members {m rr:List Int} {K:Int} {R:List Int × Int × List Int × Int} (hm:Wd m) (lm:m.length≤1000) (hR:SetR (nW m) R) (ls:List (List Int)) (hls:∀ r ∈ ls,Wd r) (hn:ls.length≤1000000) :
    Ev (fun k => sconceref07_Members.f k m K rr ls) (chkB R m K rr && ls.all (memB m)):=by
  obtain ⟨S,s1,s2⟩:=sp_ref6_Check (rr:=rr) (K:=K) hm lm
  obtain rfl:=hR.uniq s1
  unfold sconceref07_Members.f
  refine ev_bind s2 ?_
  by_cases h:chkB R m K rr = true
  · rw [h,Bool.true_and]
    exact ev_pos rfl (ref7_loop hm lm ls hls hn ls.length 0 (by omega))
  · rw [Bool.not_eq_true] at h
    rw [h,Bool.false_and]
    exact ev_neg (by decide) (ev_const rfl)
section
variable {m rr a b:List Int} {K:Int} {R:List Int × Int × List Int × Int}
end
theorem sp_few7 (m:List Int) (K:Int) (rr:List Int) (ls:List (List Int)) (hn:ls.length≤1000000000):Ev (fun k => sconcelaw07_Few.f k m K rr ls) (fewB 40 [m,rr] && fewB 40 ls):=by
  unfold sconcelaw07_Few.f
  refine ev_bind (sp_Few5 _ (by simp)) ?_
  by_cases h:fewB 40 [m,rr] = true
  · rw [h,Bool.true_and]
    exact ev_pos rfl (ev_bind (sp_Few5 _ hn) (ev_const rfl))
  · rw [Bool.not_eq_true] at h
    rw [h,Bool.false_and]
    exact ev_neg (by decide) (ev_const rfl)
theorem awake7:Ev (fun k => sconcelaw07_awake.f k) true:=Ev.of (fun k => sconcelaw07_awake.mono k) (k:=130) (by kernel_rfl)
end Go.Proofs.Ytonpekldcnankaa.X
end
section
namespace Go.Proofs.Ytonpekldcnankaa.Pure
open Go.RowKit Go.Proofs.Ytonpekldcnankaa.X Go.Proofs.YtonpekldcnankaaW.PrintWords Go.Proofs.YtonpekldcnankaaW.PrintLast Go.Proofs.Ytonpekldcnankaa.Ma
set_option linter.unusedVariables false
set_option linter.unusedSimpArgs false
theorem RingLaws:sconcelaw07_RingLaws.PureS:=by
  intro m K rr a b c _ hm _ _ _ _ ha _ hb _ hc
  rw [wf_Wd] at hm ha hb hc
  refine Ev.rounds ?_
  unfold sconcelaw07_RingLaws.f
  refine ev_bind awake7 (ev_pos rfl (ev_bind (sp_few7 _ _ _ _ (by simp)) ?_))
  by_cases h:(fewB 40 [m,rr] && fewB 40 [a,b,c]) = true
  · have h':(m.length≤40∧rr.length≤40)∧a.length≤40∧b.length≤40∧c.length≤40:=by simpa [fewB] using h
    obtain ⟨R,hR,hC⟩:=sp_mont_Check (rr:=rr) (K:=K) hm (by omega)
    have hls:∀ r ∈ [a,b,c],Wd r:=by simp [ha,hb,hc]
    refine ev_pos h (ev_bind (sp_ref7_Members hm (by omega) hR [a,b,c] hls (by simp)) ?_)
    by_cases g:(chkB R m K rr && [a,b,c].all (memB m)) = true
    · obtain ⟨g1,g2⟩:=Bool.and_eq_true_iff.1 g
      rw [g1] at hC
      exact ev_pos g (ev_pos ⟨Rg.ok_iff.2 ⟨⟨hm,hls⟩,by omega⟩,g2⟩ (ev_bind hC (ev_pos rfl (ev_const rfl))))
    · exact ev_neg g (ev_const rfl)
  · exact ev_neg h (ev_const rfl)
end Go.Proofs.Ytonpekldcnankaa.Pure
end
