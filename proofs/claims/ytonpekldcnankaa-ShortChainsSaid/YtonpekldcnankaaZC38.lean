/- Texts of the walk and of the plain laws, laid together by a program: Sq, X44. -/
import Derived.Test.YtonpekldcnankaaZC37
section
namespace Go.Proofs.Ytonpekldcnankaa.X
open Go Go.RowKit Go.Proofs.YtonpekldcnankaaW.PrintWords Go.Proofs.YtonpekldcnankaaW.PrintLast Go.Proofs.YtonpekldcnankaaW.PrintMore Go.Proofs.Ytonpekldcnankaa.Ma
set_option linter.unusedVariables false
set_option linter.unusedSimpArgs false
attribute [local go_sem] Oper.semAt_some
theorem down_made (A:Option Addr) (n c:Nat) (w:World):Calls Try.prog 117 #[.slice A n c] w fun e w' => e = .returned (.func (.func 160) #[] #[.pointer (some ⟨w.heap.size,0,none⟩)])∧w' = w.alloc (.cells #[.slice A n c] 23):=by
  go_enter Try.func117,Try.ntmps117
  go_wp2
  go_ret
  exact ⟨rfl,rfl⟩
theorem word_made {n:Nat} (h0:0 < n) (h1:n≤300) (w:World):Calls Try.prog 116 #[.int .u64 1,.int .i64 (n:Int)] w fun e w' => ∃ A c,e = .returned (.slice A n c)∧Rw n w' A c 1∧Below w.heap.size w w':=by
  refine (nat_Word.calls 1 (n:Int) _ w (sp_nat_Word1 h0 h1)).mono ?_
  rintro e w' ⟨v,rfl,q1,q2⟩
  obtain ⟨A,c,rfl,q3⟩:=Rw.of_R q1
  exact ⟨A,c,rfl,q3,q2⟩
theorem sq_box {w w4 w5:World} {v0 v1:Value} {t:TypeId} (hb:Below w4.heap.size w4 w5) (hx:w5.heap[w4.heap.size]? = some (.cells #[v0] t (0,0))):(w5.setCell ⟨w4.heap.size,0,none⟩ v1).heap[w4.heap.size]? = some (.cells #[v1] t (0,0))∧Below w4.heap.size w4 (w5.setCell ⟨w4.heap.size,0,none⟩ v1) :=
  ⟨blk_put hx 0 _ rfl,below_set (j:=0) (v:=v1) hb (Nat.le_refl _)⟩
set_option maxHeartbeats 8000000 in
set_option maxRecDepth 100000 in
theorem short_Raw_walk (A0:Option Addr) (c0:Nat) (m0:List Int) (m1:Int) (A2:Option Addr) (c2:Nat) (m2:List Int) (Aa:Option Addr) (ca:Nat) (xa:Nat) (Ae:Option Addr) (ce:Nat) (le:List Int) (w:World)
    (hr0:Kd.C (Kd.int .u64) w A0 m0.length m0) (hc0:m0.length≤c0) (hr2:Kd.C (Kd.int .u64) w A2 m2.length m2) (hc2:m2.length≤c2) (hra:Rw m0.length w Aa ca xa) (hre:Kd.C (Kd.int .u64) w Ae le.length le) (hce:le.length≤ce)
    (hM:IsMod m0 m1 m2) (hxa:xa < nW m0) (hwe:Wd le) (hle:le.length≤1000) :
    Calls Try.prog 83 #[.agg #[.slice A0 m0.length c0,.int .u64 m1,.slice A2 m2.length c2],.slice Aa m0.length ca,.slice Ae le.length ce] w fun e w' => ∃ v,e = .returned v∧Kd.R (Kd.int .u64) 24 w' w.heap.size (fun _ => True) v (wds m0.length (xa ^ nW le % nW m0))∧Below w.heap.size w w':=by
  have hu59:=Try.underlying26
  obtain ⟨n,hn⟩:∃ n,n = m0.length:=⟨_,rfl⟩
  have hn0:0 < n:=by
    rw [hn,hM.len]
    have h1:=hM.2.2.1
    rcases Nat.eq_zero_or_pos (wlen (nW m0)) with h | h
    · have:=wlen_lt (nW m0)
      rw [h,Nat.pow_zero] at this
      omega
    · exact h
  have hn3:n≤130:=by rw [hn,hM.len];exact hM.2.1
  have hM1:=hM.2.2.1
  obtain ⟨M,hMe⟩:∃ M,M = nW m0:=⟨_,rfl⟩
  obtain ⟨Bn,hBn⟩:∃ Bn,Bn = 18446744073709551616 ^ n:=⟨_,rfl⟩
  have hrr:=hM.rr
  have hrl:m2.length = m0.length:=of_decide_eq_true (Bool.and_eq_true_iff.1 hrr.2.1).1
  have HP:=Aside0.mk (show ∀ {x y r:Nat} (_:x < M) (_:y < M) (_:r < M) (_:(r * Bn) % M = (x * y) % M) (W:World) (A1:Option Addr) (d1:Nat) (A3:Option Addr) (d3:Nat),Below w.heap.size w W→Rw n W A1 d1 x→Rw n W A3 d3 y →
      Calls Try.prog 109 #[.pointer none,.agg #[.slice A0 n c0,.int .u64 m1,.slice A2 n c2],.slice A1 n d1,.slice A3 n d3] W fun e w' => ∃ A c,e = .returned (.slice A n c)∧Rw n w' A c r∧Below W.heap.size W w' from by
    intro x y r h1 h2 h3 h4 W A1 d1 A3 d3 hW g1 g3
    rw [hMe] at h1 h2 h3 h4
    rw [hBn,hn] at h4
    rw [hn] at g1 g3 ⊢
    have:=prod_calls hM h1 h2 h3 h4 A0 c0 A2 c2 W (Kd.C_below hr0 hW) hc0 (Kd.C_below hr2 hW) hc2 A1 d1 A3 d3 g1 g3
    rw [hrl] at this
    exact this)
  have HPR:=Aside0.mk (show ∀ {x y r:Nat} (_:x < M) (_:y < M) (_:r < M) (_:(r * Bn) % M = (x * y) % M) (W:World) (A1:Option Addr) (d1:Nat) (A3:Option Addr) (d3:Nat),Below w.heap.size w W→Rw n W A1 d1 x→Rw n W A3 d3 y →
      Calls Try.prog 109 #[.pointer none,.agg #[.slice A0 n c0,.int .u64 m1,.slice A2 n c2],.slice A1 n d1,.slice A3 n d3] W fun e w' => ∃ v,e = .returned v∧Kd.R (Kd.int .u64) 24 w' W.heap.size (fun _ => True) v (wds n r)∧Below W.heap.size W w' from by
    intro x y r h1 h2 h3 h4 W A1 d1 A3 d3 hW g1 g3
    rw [hMe] at h1 h2 h3 h4
    rw [hBn,hn] at h4
    rw [hn] at g1 g3 ⊢
    have:=prod_callsR hM h1 h2 h3 h4 A0 c0 A2 c2 W (Kd.C_below hr0 hW) hc0 (Kd.C_below hr2 hW) hc2 A1 d1 A3 d3 g1 g3
    rw [hrl] at this
    exact this)
  have HRR:=Aside0.mk (show ∀ W:World,Below w.heap.size w W→Rw n W A2 c2 (Bn ^ 2 % M) from by
    intro W hW
    have e:m2 = wds n (Bn ^ 2 % M):=by
      have h3:=hrr.2.2
      rw [Nat.mul_comm,Nat.pow_mul,← hn,← hBn,← hMe] at h3
      rw [← h3,hn,← hrl]
      exact Wd_eq hrr.1
    have:=Kd.C_below hr2 hW
    rw [hrl,← hn] at this
    rw [e] at this
    exact ⟨this,by omega⟩)
  have HRA:=Aside0.mk (fun (W:World) (hW:Below w.heap.size w W) => hra.below hW)
  have HRE:=Aside0.mk (fun (W:World) (hW:Below w.heap.size w W) => Kd.C_below hre hW)
  have hM0:0 < M:=by omega
  have HM1:=Aside0.mk (show 1 < M∧xa < M∧(1 % M = 1) from ⟨by omega,by omega,Nat.mod_eq_of_lt (by omega)⟩)
  rw [← hn] at hra hc0 ⊢
  rw [hrl,← hn] at hc2 ⊢
  rw [← hMe]
  have HN:=Aside0.mk (And.intro hn (And.intro hMe hBn))
  rw [← hn] at HRA
  clear hr0 hr2 hra hre hrr hM1 hn hMe hBn hrl hxa hM
  refine (callsIn_wide (n:=2)).1 ?_
  refine callsIn_of_wp_marks Try.func83 rfl trivial ?_ rfl
  simp only [Try.ntmps83,List.size_toArray,List.length_cons,List.length_nil,Nat.reduceAdd,Nat.reduceSub,Array.replicate_succ,Array.replicate_zero,List.push_toArray,List.append_toArray,List.nil_append,List.cons_append]
  refine wpIn_wide.2 ?_
  go_upto_region 1 with ((with_reducible refine gate_dst (N:=3) rfl ?_);refine box_event ?hg (N:=3) ?hd (cs:=#[.slice A0 n c0,.int .u64 m1,.slice A2 n c2]) (t:=26) ?hr ?_;(case hd => rfl);(case hg => rfl);(case hr => first | (go_simp;done) | (go_simp;rfl));intro gb hgb w3 hbox hb;subst hgb;have HX:=Aside0.mk hbox;have HB3:=Aside0.mk hb;clear hbox hb)
  have HB:=Aside0.mk (show Below w.heap.size w w3 from HB3.out)
  have z0:=(blk_cell HX.out 0).trans rfl
  have z1:=(blk_cell HX.out 1).trans rfl
  have z2:=(blk_cell HX.out 2).trans rfl
  obtain ⟨tN,htN⟩:∃ tN:TypeId,tN = 23:=⟨_,rfl⟩
  go_upto_region 2 with (first
    | (go_at_call 116;(with_reducible refine (word_made hn0 (by omega) _).mono ?_);rintro e w4 ⟨A4,c4,rfl,r4,hb4⟩;have HR:=Aside0.mk r4;have HX:=Aside0.mk (blk_below HX.out hb4);have HB:=Aside0.mk (below_then HB.out HB.out.size hb4);clear r4 hb4)
    | ((with_reducible refine gate_dst (N:=7) rfl ?_);refine box_event ?hg (N:=7) ?hd (cs:=#[.slice none 0 0]) (t:=23) ?hr ?_;(case hd => rfl);(case hg => rfl);(case hr => first | (go_simp;done) | (go_simp;rfl));intro gx hgx w5 hbox hb;subst hgx;have HX5:=Aside0.mk hbox;have HB5:=Aside0.mk hb;have zx:=cell_of_one hbox;have fx:=free_of_one hbox;clear hbox hb))
  obtain ⟨gx,hgx⟩:∃ gx,gx = w4.heap.size:=⟨_,rfl⟩
  have hgm:w.heap.size≠gx:=by rw [hgx];have:=(Array.getElem?_eq_some_iff.1 HX.out).1;omega
  have hwx:w.heap.size≤gx:=by rw [hgx];exact HB.out.size
  obtain ⟨wx,hwx2⟩:∃ W:World,W = w5.setCell ⟨w4.heap.size,0,none⟩ (.slice A4 n c4):=⟨_,rfl⟩
  have HS:=Aside0.mk (show BxI w n w.heap.size gx #[.slice A0 n c0,.int .u64 m1,.slice A2 n c2] 26 23 1 wx from by
    obtain ⟨q1,q2⟩:=sq_box (w:=w) (v1:=.slice A4 n c4) HB5.out HX5.out
    rw [hwx2,hgx]
    exact ⟨A4,c4,blk_below HX.out q2,q1,HR.out.below q2,below_then HB.out HB.out.size q2⟩)
  rw [← hwx2,← hgx]
  clear z0 z1 z2 zx fx HX5 HB5 HR hwx2 hgx HX HB
  obtain ⟨Ax,cx,hm,hxx,hrx,hbx⟩:=HS.out
  have z0:=(blk_cell hm 0).trans rfl
  have z1:=(blk_cell hm 1).trans rfl
  have z2:=(blk_cell hm 2).trans rfl
  have zx:=cell_of_one hxx
  have HXX:=Aside0.mk hxx
  have HC:=Aside0.mk (HP.out HM1.out.1 (Nat.mod_lt _ hM0) (Nat.mod_lt Bn hM0) (show (Bn % M * Bn) % M = (1 * (Bn ^ 2 % M)) % M by rw [Nat.mod_mul_mod,Nat.one_mul,Nat.mod_mod,Nat.pow_succ,Nat.pow_one]) wx Ax cx A2 c2 hbx hrx (HRR.out _ hbx))
  clear hm hxx hrx hbx
  go_upto_region 3 with (go_at_call 109;(with_reducible refine HC.out.mono ?_);rintro e w6 ⟨A6,c6,rfl,r6,hb6⟩;have HR:=Aside0.mk r6;have HB6:=Aside0.mk hb6;have zx6:=cell_of_one (blk_below HXX.out hb6);have fx6:=free_of_one (blk_below HXX.out hb6);clear r6 hb6)
  obtain ⟨wy,hwy⟩:∃ W:World,W = w6.setCell ⟨gx,0,none⟩ (.slice A6 n c6):=⟨_,rfl⟩
  have HS:=Aside0.mk (show BxI w n w.heap.size gx #[.slice A0 n c0,.int .u64 m1,.slice A2 n c2] 26 23 (Bn % M) wy from by rw [hwy];exact (HS.out.put HB6.out hgm hwx HR.out).I)
  rw [← hwy]
  clear z0 z1 z2 zx zx6 fx6 HXX HC HR HB6 hwy
  obtain ⟨Ax',cx',hm,hxx,hrx,hbx⟩:=HS.out
  have z0:=(blk_cell hm 0).trans rfl
  have z1:=(blk_cell hm 1).trans rfl
  have z2:=(blk_cell hm 2).trans rfl
  have HC:=Aside0.mk (HP.out HM1.out.2.1 (Nat.mod_lt (Bn ^ 2) hM0) (Nat.mod_lt (xa * Bn) hM0) (show (xa * Bn % M * Bn) % M = (xa * (Bn ^ 2 % M)) % M by rw [Nat.mod_mul_mod,Nat.mul_mod_mod,Nat.pow_succ,Nat.pow_one,Nat.mul_assoc]) wy Aa ca A2 c2 hbx (HRA.out _ hbx) (HRR.out _ hbx))
  clear hm hxx hrx hbx
  go_upto_region 4 with (first
    | (go_at_call 109;(with_reducible refine HC.out.mono ?_);rintro e w7 ⟨A7,c7,rfl,r7,hb7⟩;have HR:=Aside0.mk r7;have HS:=Aside0.mk (HS.out.call hb7);clear r7 hb7)
    | ((with_reducible refine gate_dst (N:=8) rfl ?_);refine box_event ?hg (N:=8) ?hd (cs:=#[.slice none 0 0]) (t:=23) ?hr ?_;(case hd => rfl);(case hg => rfl);(case hr => first | (go_simp;done) | (go_simp;rfl));intro gy hgy w8 hbox hb;subst hgy;have HX8:=Aside0.mk hbox;have HB8:=Aside0.mk hb;have zy:=cell_of_one hbox;have fy:=free_of_one hbox;clear hbox hb))
  obtain ⟨gy,hgy⟩:∃ gy,gy = w7.heap.size:=⟨_,rfl⟩
  obtain ⟨wz,hwz⟩:∃ W:World,W = w8.setCell ⟨w7.heap.size,0,none⟩ (.slice A7 n c7):=⟨_,rfl⟩
  have HSY:=Aside0.mk (show BxI w n w.heap.size gx #[.slice A0 n c0,.int .u64 m1,.slice A2 n c2] 26 23 (Bn % M) wz∧wz.heap[gy]? = some (.cells #[.slice A7 n c7] 23 (0,0))∧Rw n wz A7 c7 (xa * Bn % M)∧gx < gy from by
    obtain ⟨q1,q2⟩:=sq_box (w:=w) (v1:=.slice A7 n c7) HB8.out HX8.out
    rw [hwz,hgy]
    obtain ⟨_,_,_,q3,_,_⟩:=HS.out
    exact ⟨HS.out.call q2,q1,HR.out.below q2,(Array.getElem?_eq_some_iff.1 q3).1⟩)
  rw [← hwz,← hgy]
  clear z0 z1 z2 zy fy HX8 HB8 HR hwz hgy HC
  have HE:=Aside0.mk (down_made Ae le.length ce wz)
  go_upto_region 5 with (go_at_call 117;(with_reducible refine HE.out.mono ?_);rintro e w9 ⟨rfl,rfl⟩)
  obtain ⟨wE,hwE⟩:∃ W:World,W = wz.alloc (Obj.cells #[Value.slice Ae le.length ce] 23):=⟨_,rfl⟩
  have hbE:Below wz.heap.size wz wE:=by rw [hwE];exact below_alloc (Below.refl _ _) _
  have hsE:wE.heap.size = wz.heap.size + 1:=by rw [hwE];simp
  have hxE:wE.heap[wz.heap.size]? = some (.cells #[.slice Ae le.length ce] 23 (0,0)):=by rw [hwE];exact blk_new wz _
  rw [← hwE]
  obtain ⟨hs1,hs2,hs3,hs4⟩:=HSY.out
  have HS:=Aside0.mk (hs1.call hbE)
  have hyE:=blk_below hs2 hbE
  have hrE:=hs3.below hbE
  obtain ⟨_,_,_,hgxE,_,hwE0⟩:=HS.out
  have hlx:gx < wE.heap.size:=(Array.getElem?_eq_some_iff.1 hgxE).1
  have hly:gy < wE.heap.size:=(Array.getElem?_eq_some_iff.1 hyE).1
  have hlw:=hwE0.size
  have hlz:wz.heap.size≠gx:=by have:=(Array.getElem?_eq_some_iff.1 hs2).1;omega
  have hseq:=down_seq le hwe hle Ae ce wz.heap.size wE.heap.size gx 23 wE (fun W hW => (hW.2 _ (by omega) hlz).trans hxE) (fun W hW => HRE.out W (hW.below hlw hwx hwE0)) hce
  have HY:=Aside0.mk (show ∀ W,KpY wE.heap.size gx wE W→W.heap[gy]? = some (.cells #[.slice A7 n c7] 23 (0,0))∧Rw n W A7 c7 (xa * Bn % M) from fun W hW => ⟨(hW.2 gy hly (by omega)).trans hyE,hrE.kp hgxE hW⟩)
  have HXL:=Aside0.mk hwx
  have HGM:=Aside0.mk hgm
  have HLW:=Aside0.mk hlw
  clear hs1 hs2 hs3 hs4 hyE hrE hgxE hwE0 hxE hbE hsE hwE HSY hlx hly hlz hgm hwx hlw
  refine (wpIn_wide (n:=2)).1 ?_
  refine wp_rangeD (gf:=160) (lb:=#[.pointer (some ⟨wz.heap.size,0,none⟩)]) rfl (enters_of Try.func160 (by kernel_rfl) rfl) hseq (Nat.le_refl _) (KpY.refl _ _ _) (fun _ => rfl)
    (fun pre W => BxI w n w.heap.size gx #[.slice A0 n c0,.int .u64 m1,.slice A2 n c2] 26 23 (xa ^ valB pre * Bn % M) W∧KpY wE.heap.size gx wE W)
    (OwnFrom.and (BxI.own HLW.out) (KpY.own (Nat.le_refl _))) (fun s W m h => ⟨h.1.call (pw_below_drewN (Below.refl _ _) m),h.2.drewN m⟩) ⟨by have:=HS.out;simpa [valB] using this,KpY.refl _ _ _⟩
    (fun x => { tmps:=#[.agg #[.slice A0 n c0,.int .u64 m1,.slice A2 n c2],.slice Aa n ca,.slice Ae le.length ce,.pointer (some ⟨w.heap.size,0,none⟩),undef,undef,.slice none 0 0,.pointer (some ⟨gx,0,none⟩),.pointer (some ⟨gy,0,none⟩),.bool x,.pointer (some ⟨w.heap.size,0,none⟩),.slice A0 n c0,.int .i64 (n:Int),.slice A4 n c4,.agg #[.slice A0 n c0,.int .u64 m1,.slice A2 n c2],.slice Ax n cx,.pointer (some ⟨w.heap.size,2,none⟩),.slice A2 n c2,.slice A6 n c6,.agg #[.slice A0 n c0,.int .u64 m1,.slice A2 n c2],.slice Aa n ca,.pointer (some ⟨w.heap.size,2,none⟩),.slice A2 n c2,.slice A7 n c7,.slice Ae le.length ce,.func (.func 160) #[] #[.pointer (some ⟨wz.heap.size,0,none⟩)],.bool x,undef,undef,undef,undef,undef,undef,undef,undef,undef,undef,undef,undef,undef,undef,undef,undef],defers:=[] }) ?assign ?body ?done
  case assign =>
    intro l x W K hK
    gi_wp2
    exact hK
  case body =>
    rintro l pre x W ⟨hS,hK⟩ hpre
    have HSW:=Aside0.mk hS
    have HKW:=Aside0.mk hK
    obtain ⟨Av,cv,hm,hxx,hrx,hbx⟩:=hS
    have z0:=(blk_cell hm 0).trans rfl
    have z1:=(blk_cell hm 1).trans rfl
    have z2:=(blk_cell hm 2).trans rfl
    have zx:=cell_of_one hxx
    have HXX:=Aside0.mk hxx
    obtain ⟨v,hv⟩:∃ v,v = valB pre:=⟨_,rfl⟩
    rw [← hv] at hrx
    have HV:=Aside0.mk hv
    have HC1:=Aside0.mk (HP.out (Nat.mod_lt _ hM0) (Nat.mod_lt _ hM0) (Nat.mod_lt (xa ^ (2 * v) * Bn) hM0) (mont_form1 (a:=xa ^ v) (b:=xa ^ v) (Nat.mod_mod _ _) (Nat.mod_mod _ _) (by rw [Nat.mod_mod,← Nat.pow_add,show v + v = 2 * v by omega])) W Av cv Av cv hbx hrx hrx)
    clear hm hxx hrx hbx hK hv
    cases x with
    | false =>
      gi_wp2_with (refine ⟨trivial,rfl,?_⟩;gi_at_call 109;refine (CallsIn.inRound l (callsIn_wide.2 HC1.out)).mono ?_;clear HC1;rintro e W6 ⟨A6,c6,rfl,r6,hb6⟩;have HR:=Aside0.mk r6;have HB6:=Aside0.mk hb6;have zx6:=cell_of_one (blk_below HXX.out hb6);have fx6:=free_of_one (blk_below HXX.out hb6);clear r6 hb6)
      have hJ:=HSW.out.put HB6.out HGM.out HXL.out HR.out
      refine ⟨(below_others HB6.out).trans (KeepsOthers.setCell _ _ _),(KpY.of (HB6.out.mono HKW.out.1.size)).put _,?_,(HKW.out.call (Nat.le_refl _) HB6.out).put _⟩
      rw [valB_snoc,← HV.out]
      exact hJ.I
    | true =>
      gi_wp2_with (refine ⟨trivial,rfl,?_⟩;gi_at_call 109;first
        | (refine (CallsIn.inRound l (callsIn_wide.2 HC1.out)).mono ?_;clear HC1;rintro e W6 ⟨A6,c6,rfl,r6,hb6⟩;have HB6:=Aside0.mk hb6;have zx6:=cell_of_one (blk_below HXX.out hb6);have fx6:=free_of_one (blk_below HXX.out hb6);have hJ:=HSW.out.put hb6 HGM.out HXL.out r6;have hK6:=(HKW.out.call (Nat.le_refl _) hb6).put (.slice A6 n c6);obtain ⟨hy1,hy2⟩:=HY.out _ hK6;have y0:=(blk_cell hJ.1 0).trans rfl;have y1:=(blk_cell hJ.1 1).trans rfl;have y2:=(blk_cell hJ.1 2).trans rfl;have yx:=cell_of_one hJ.2.1;have yy:=cell_of_one hy1;have HC2:=Aside0.mk (HP.out (Nat.mod_lt _ hM0) (Nat.mod_lt _ hM0) (Nat.mod_lt (xa ^ (2 * v + 1) * Bn) hM0) (mont_form1 (a:=xa ^ (2 * v)) (b:=xa) (Nat.mod_mod _ _) (Nat.mod_mod _ _) (by rw [Nat.mod_mod,Nat.pow_succ])) _ A6 c6 A7 c7 hJ.2.2.2 hJ.2.2.1 hy2);have HJ:=Aside0.mk hJ;have HK6:=Aside0.mk hK6;clear r6 hb6 hJ hK6 hy1 hy2)
        | (refine (CallsIn.inRound l (callsIn_wide.2 HC2.out)).mono ?_;clear HC2;rintro e W7 ⟨A8,c8,rfl,r8,hb8⟩;have HR8:=Aside0.mk r8;have HB8:=Aside0.mk hb8;have zx8:=cell_of_one (blk_below HJ.out.2.1 hb8);have fx8:=free_of_one (blk_below HJ.out.2.1 hb8);clear r8 hb8))
      have hJ8:=HJ.out.I.put HB8.out HGM.out HXL.out HR8.out
      refine ⟨((below_others HB6.out).trans (KeepsOthers.setCell _ _ _)).trans ((below_others HB8.out).trans (KeepsOthers.setCell _ _ _)),(((KpY.of (HB6.out.mono HKW.out.1.size)).put _).trans (KpY.of (HB8.out.mono HK6.out.1.size))).put _,?_,(HK6.out.call (Nat.le_refl _) HB8.out).put _⟩
      rw [valB_snoc,← HV.out]
      exact hJ8.I
  case done =>
    rintro D W hD ⟨hS,hK⟩ hDK
    rw [bitsD_all] at hS
    obtain ⟨Av,cv,hm,hxx,hrx,hbx⟩:=hS
    have HDK:=Aside0.mk hDK
    have HD:=Aside0.mk hD
    have HBX:=Aside0.mk hbx
    have HRX:=Aside0.mk hrx
    have HZ:=Aside0.mk (fun (W':World) (hW:Below W.heap.size W W') => And.intro ((blk_cell (blk_below hm hW) 0).trans rfl) (And.intro ((blk_cell (blk_below hm hW) 1).trans rfl) (And.intro ((blk_cell (blk_below hm hW) 2).trans rfl) (cell_of_one (blk_below hxx hW)))))
    have HC:=Aside0.mk (fun (W':World) (A1:Option Addr) (d1:Nat) (hW:Below W.heap.size W W') (h1:Rw n W' A1 d1 1) => HPR.out (Nat.mod_lt (xa ^ nW le * Bn) hM0) HM1.out.1 (Nat.mod_lt (xa ^ nW le) hM0) (show (xa ^ nW le % M * Bn) % M = (xa ^ nW le * Bn % M * 1) % M by rw [Nat.mod_mul_mod,Nat.mul_one,Nat.mod_mod]) W' Av cv A1 d1 (below_then hbx hbx.size hW) (hrx.below hW) h1)
    have HB:=Aside0.mk (Below.drew (Below.refl W.heap.size W))
    clear hDK hD hbx hrx hm hxx hK
    go_upto_region 9 with (fail)
    go_region_held3 (fun w' => w'.cell? ⟨w.heap.size,0,none⟩ = some (.slice A0 n c0)∧w'.cell? ⟨w.heap.size,1,none⟩ = some (.int .u64 m1)∧w'.cell? ⟨w.heap.size,2,none⟩ = some (.slice A2 n c2)∧w'.cell? ⟨gx,0,none⟩ = some (.slice Av n cv)) (first | exact HZ.out _ HB.out)
      (first
        | (go_at_call 116;(with_reducible refine (word_made hn0 (by omega) _).mono ?_);rintro e w11 ⟨A11,c11,rfl,r11,hb11⟩;have HB:=Aside0.mk (below_then HB.out HB.out.size hb11);have HR11:=Aside0.mk r11;clear r11 hb11)
        | (go_at_call 109;(with_reducible refine (HC.out _ A11 c11 HB.out HR11.out).mono ?_);rintro e w12 ⟨v12,rfl,r12,hb12⟩;have HR12:=Aside0.mk (Kd.R_lower r12 (below_then HBX.out HBX.out.size HB.out).size);have HB:=Aside0.mk (below_then HB.out HB.out.size hb12);clear r12 hb12))
    go_wp2
    have hK12:=blk_below HDK.out HB.out
    have hg:=grownBy_putObj' w12 D (.deferred none)
    have hb12:=below_then HBX.out HBX.out.size HB.out
    refine ⟨by simp,.inl ⟨_,_,rfl,run_takeDeferred hK12,?_⟩⟩
    exact ⟨_,results_tmp rfl _ _ _,v12,rfl,R_turned HR12.out hK12 rfl,hb12.grown hg hb12.size (fun k e => by cases e;exact Nat.le_trans HLW.out HD.out)⟩
theorem short_Raw_calls (k:Nat) (A0:Option Addr) (c0:Nat) (m0:List Int) (m1:Int) (A2:Option Addr) (c2:Nat) (m2:List Int) (Aa:Option Addr) (ca:Nat) (la:List Int) (Ae:Option Addr) (ce:Nat) (le:List Int) (r:List Int) (w:World)
    (hr0:Kd.C (Kd.int .u64) w A0 m0.length m0) (hc0:m0.length≤c0) (hr2:Kd.C (Kd.int .u64) w A2 m2.length m2) (hc2:m2.length≤c2) (hra:Kd.C (Kd.int .u64) w Aa la.length la) (hca:la.length≤ca) (hre:Kd.C (Kd.int .u64) w Ae le.length le) (hce:le.length≤ce)
    (h:(if Rg.ok m0 [la] = true∧Rg.mem m0 [la] = true∧le.all wd = true∧le.length≤1000 then (mont_Check.f k m0 m1 m2).bind fun t => if t = true then some (dgs 18446744073709551616 m0.length (num 18446744073709551616 la ^ num 18446744073709551616 le % num 18446744073709551616 m0)) else none else none) = some r) :
    Calls Try.prog 83 #[.agg #[.slice A0 m0.length c0,.int .u64 m1,.slice A2 m2.length c2],.slice Aa la.length ca,.slice Ae le.length ce] w fun e w' => ∃ v0_:Value,e = .returned (v0_)∧Kd.R (Kd.int .u64) 24 w' w.heap.size (fun _ => True) v0_ r∧Below w.heap.size w w':=by
  split at h
  · rename_i hk
    obtain ⟨hk1,hk2,hk3,hk4⟩:=hk
    obtain ⟨⟨hm,hls⟩,lm⟩:=Rg.ok_iff.1 hk1
    obtain ⟨e1,e2⟩:=Rg.mem_iff.1 hk2 la (by simp)
    cases e4:mont_Check.f k m0 m1 m2 with
    | none => rw [e4] at h;exact absurd h (by simp)
    | some t4 =>
    rw [e4,Option.bind_some] at h
    cases t4 with
    | false => exact absurd h (by simp)
    | true =>
    rw [if_pos rfl] at h
    obtain rfl:=Option.some.inj h
    have hI:=isMod_of_f hm (by omega) e4
    have hla:la = wds m0.length (nW la):=by rw [← e1];exact Wd_eq (hls la (by simp))
    have hx:Rw m0.length w Aa ca (nW la):=by
      unfold Rw
      rw [← hla,← e1]
      exact ⟨hra,hca⟩
    have hcall:=short_Raw_walk A0 c0 m0 m1 A2 c2 m2 Aa ca (nW la) Ae ce le w hr0 hc0 hr2 hc2 hx hre hce hI e2 (wd_all.1 hk3) hk4
    rw [e1]
    exact hcall
  · exact absurd h (by simp)
end Go.Proofs.Ytonpekldcnankaa.X
end
section
namespace Go.Proofs.Ytonpekldcnankaa.X
open Go.RowKit Go.Proofs.YtonpekldcnankaaW.PrintWords Go.Proofs.YtonpekldcnankaaW.PrintLast Go.Proofs.YtonpekldcnankaaW.PrintMore
attribute [local go_sem] max2_int min2_int max_two min_two max_three min_three max_four min_four
set_option linter.unusedVariables false
set_option linter.unusedSimpArgs false
def short_Raw.f (k:Nat) (m0:List Int) (m1:Int) (m2:List Int) (a e:List Int):Option (List Int) :=
 if Rg.ok m0 [a] = true∧Rg.mem m0 [a] = true∧e.all Ma.wd = true∧e.length≤1000 then (mont_Check.f k m0 m1 m2).bind fun t => if t = true then some (Ma.dgs 18446744073709551616 m0.length (Ma.num 18446744073709551616 a ^ Ma.num 18446744073709551616 e % Ma.num 18446744073709551616 m0)) else none else none
theorem short_Raw.mono:∀ a0 a1 a2 a3 a4 k,LeO (short_Raw.f k a0 a1 a2 a3 a4) (short_Raw.f (k + 1) a0 a1 a2 a3 a4):=by
 intro a0 a1 a2 a3 a4 k
 unfold short_Raw.f
 exact LeO.ite (LeO.bind (mont_Check.mono _ _ _ _) (fun _ => LeO.refl _)) (LeO.refl _)
theorem short_Raw.calls (k:Nat) (A0_0:Option Addr) (c0_0:Nat) (l0_0:List Int) (a0_1:Int) (A0_2:Option Addr) (c0_2:Nat) (l0_2:List Int) (A1:Option Addr) (c1:Nat) (l1:List Int) (A2:Option Addr) (c2:Nat) (l2:List Int) (r:List Int) (w:World) (hr0_0:Kd.C (Kd.int .u64) w A0_0 l0_0.length l0_0) (hc0_0:l0_0.length≤c0_0) (hr0_2:Kd.C (Kd.int .u64) w A0_2 l0_2.length l0_2) (hc0_2:l0_2.length≤c0_2) (hr1:Kd.C (Kd.int .u64) w A1 l1.length l1) (hc1:l1.length≤c1) (hr2:Kd.C (Kd.int .u64) w A2 l2.length l2) (hc2:l2.length≤c2) (h:short_Raw.f k l0_0 a0_1 l0_2 l1 l2 = some r) :
  Calls Try.prog 83 #[.agg #[.slice A0_0 l0_0.length c0_0,.int .u64 a0_1,.slice A0_2 l0_2.length c0_2],.slice A1 l1.length c1,.slice A2 l2.length c2] w fun e w' => ∃ v0_:Value,e = .returned (v0_)∧Kd.R (Kd.int .u64) 24 w' w.heap.size (fun _ => True) v0_ r∧Below w.heap.size w w' :=
 short_Raw_calls k A0_0 c0_0 l0_0 a0_1 A0_2 c0_2 l0_2 A1 c1 l1 A2 c2 l2 r w hr0_0 hc0_0 hr0_2 hc0_2 hr1 hc1 hr2 hc2 h
end Go.Proofs.Ytonpekldcnankaa.X
end
