/- Texts of the walk and of the plain laws, laid together by a program: Ak9, X46, Sc, X52, PsShortChains, Sp9, PureShortChains. -/
import Derived.Test.YtonpekldcnankaaZC39
import Derived.Test.YtonpekldcnankaaZC40
import Derived.Test.YtonpekldcnankaaZC41
set_option maxHeartbeats 4000000
set_option maxRecDepth 100000
section
namespace Go.Proofs.Ytonpekldcnankaa.X
open Go.RowKit Go.Proofs.YtonpekldcnankaaW.PrintWords Go.Proofs.YtonpekldcnankaaW.PrintLast Go.Proofs.YtonpekldcnankaaW.PrintMore
set_option linter.unusedVariables false
set_option linter.unusedSimpArgs false
theorem awake9_walk (k:Nat) (K:Int) (w:World) (hS:sconceref06_Setup.f k [7] = some ([7],K,[4],0)) (hA:short_Exp.f k [7] K [4] [3] 5 = some ([5],0)) :
    Calls Try.prog 37 #[] w fun e w' => e = .returned (.bool true)∧Below w.heap.size w w':=by
  have hu59:=Try.underlying26
  have HS:=Aside0.mk (ak_setup hS (blk_new w (Obj.cells #[.int .u64 7] 24)))
  have HB1:=Aside0.mk (below_alloc (Below.refl w.heap.size w) (Obj.cells #[.int .u64 7] 24))
  have HA:=Aside0.mk hA
  clear hS hA
  go_enter Try.func37,Try.ntmps37
  go_upto_region 2 with (first
    | (go_at_call 62;(with_reducible refine HS.out.mono ?_);rintro e w4 ⟨A0,c0,A2,c2,rfl,hm4,hb4⟩;have HM4:=Aside0.mk hm4;have HB4:=Aside0.mk (below_then HB1.out HB1.out.size hb4);clear hm4 hb4)
    | ((with_reducible refine gate_dst (N:=1) rfl ?_);refine box_event ?hg (N:=1) ?hd (cs:=#[.slice none 0 0,.int .u64 0,.slice none 0 0]) (t:=26) ?hr ?_;(case hd => rfl);(case hg => rfl);(case hr => first | (go_simp;done) | (go_simp;rfl));intro gb hgb w5 hbox hb;subst hgb;have HX:=Aside0.mk hbox;have HB5:=Aside0.mk hb;have z0:=(blk_cell hbox 0).trans rfl;have z1:=(blk_cell hbox 1).trans rfl;have z2:=(blk_cell hbox 2).trans rfl;have f0:=blk_frozen hbox 0;have f1:=blk_frozen hbox 1;have f2:=blk_frozen hbox 2;clear hbox hb))
  obtain ⟨wM,hwM⟩:∃ W:World,W = ((w5.setCell ⟨w4.heap.size,0,none⟩ (.slice A0 1 c0)).setCell ⟨w4.heap.size,1,none⟩ (.int .u64 K)).setCell ⟨w4.heap.size,2,none⟩ (.slice A2 1 c2):=⟨_,rfl⟩
  obtain ⟨hx,hb4,hb0⟩:=ak_box HB4.out HB5.out HX.out hwM
  rw [← hwM]
  have HM:=Aside0.mk (HM4.out.below hb4)
  have z0':=(blk_cell hx 0).trans rfl
  have z1':=(blk_cell hx 1).trans rfl
  have z2':=(blk_cell hx 2).trans rfl
  have HB:=Aside0.mk hb0
  clear z0 z1 z2 f0 f1 f2 hwM hx hb4 hb0 HX HB5 HB4 HM4 HB1 HS
  have hg:=below_alloc (Below.refl wM.heap.size wM) (Obj.cells #[.int .u64 3] 24)
  have hm:=HM.out.below hg
  have HA':=Aside0.mk (show Calls Try.prog 39 #[.agg #[.slice A0 1 c0,.int .u64 K,.slice A2 1 c2],.slice (some ⟨wM.heap.size,0,none⟩) 1 1,.int .u64 5] _ _ from short_Exp.calls k A0 c0 [7] K A2 c2 [4] _ 1 [3] 5 [5] 0 _ hm.1 hm.2.1 hm.2.2.1 hm.2.2.2 (ak_lit (blk_new wM (Obj.cells #[.int .u64 3] 24))) (Nat.le_refl _) HA.out)
  have HG:=Aside0.mk hg
  clear hg hm
  go_upto_region 3 with (go_at_call 39;(with_reducible refine HA'.out.mono ?_);rintro e w6 ⟨va,rfl,ha,hb6⟩;have HR6:=Aside0.mk ha;have HB6:=Aside0.mk (below_then HG.out HG.out.size hb6);clear ha hb6)
  obtain ⟨ada,ca,rfl,xa⟩:=ak_one HR6.out
  have HB':=Aside0.mk (below_then HB.out HB.out.size HB6.out)
  clear z0' z1' z2'
  go_wp2
  go_ret
  exact ⟨rfl,HB'.out⟩
end Go.Proofs.Ytonpekldcnankaa.X
end
section
namespace Go.Proofs.Ytonpekldcnankaa.X
open Go.RowKit Go.Proofs.YtonpekldcnankaaW.PrintWords Go.Proofs.YtonpekldcnankaaW.PrintLast Go.Proofs.YtonpekldcnankaaW.PrintMore
attribute [local go_sem] max2_int min2_int max_two min_two max_three min_three max_four min_four
set_option linter.unusedVariables false
set_option linter.unusedSimpArgs false
def sconcelaw09_awake.f (k:Nat):Option Bool:=if sconceref06_Setup.f k [7] = some ([7],10540996613548315209,[4],0)∧short_Exp.f k [7] 10540996613548315209 [4] [3] 5 = some ([5],0) then some true else none
theorem sconcelaw09_awake.mono:∀ k,LeO (sconcelaw09_awake.f k) (sconcelaw09_awake.f (k + 1)):=by
 intro k r h
 unfold sconcelaw09_awake.f at h ⊢
 split at h
 ·
  rename_i hc
  rw [if_pos ⟨sconceref06_Setup.mono _ _ _ hc.1,short_Exp.mono _ _ _ _ _ _ _ hc.2⟩]
  exact h
 ·
  exact absurd h (by simp)
theorem sconcelaw09_awake.calls (k:Nat) (r:Bool) (w:World) (h:sconcelaw09_awake.f k = some r) :
  Calls Try.prog 37 #[] w fun e w' => e = .returned (.bool r)∧Below w.heap.size w w':=by
 unfold sconcelaw09_awake.f at h
 split at h
 ·
  rename_i hc
  obtain rfl:=Option.some.inj h
  exact awake9_walk k _ w hc.1 hc.2
 ·
  exact absurd h (by simp)
end Go.Proofs.Ytonpekldcnankaa.X
end
section
namespace Go.Proofs.Ytonpekldcnankaa.X
open Go.RowKit Go.Proofs.YtonpekldcnankaaW.PrintWords Go.Proofs.YtonpekldcnankaaW.PrintLast Go.Proofs.YtonpekldcnankaaW.PrintMore Go.Proofs.Ytonpekldcnankaa.Ma
set_option linter.unusedVariables false
set_option linter.unusedSimpArgs false
def Lw (W:World) (A:Option Addr) (c:Nat) (l:List Int):Prop:=Kd.C (Kd.int .u64) W A l.length l∧l.length≤c
theorem Lw.of {W:World} {A:Option Addr} {c:Nat} {l:List Int} (h:Kd.C (Kd.int .u64) W A l.length l) (h2:l.length≤c):Lw W A c l:=⟨h,h2⟩
theorem Lw.below {W W':World} {A:Option Addr} {c:Nat} {l:List Int} (h:Lw W A c l) (hb:Below W.heap.size W W'):Lw W' A c l:=⟨Kd.C_below h.1 hb,h.2⟩
theorem Lw.of_R {W:World} {base:Nat} {ok:Nat→Prop} {v:Value} {l:List Int} (h:Kd.R (Kd.int .u64) 24 W base ok v l):∃ A c,v = .slice A l.length c∧Lw W A c l:=by
  obtain ⟨A,c,e⟩:=Kd.R_slice h
  subst e
  exact ⟨A,c,rfl,(Kd.R_reads' h).2.2,(Kd.R_reads' h).2.1⟩
theorem Lw.of_V {W:World} {base:Nat} {ok:Nat→Prop} {v:Value} {l:List Int} (h:Kd.V (Kd.int .u64) 24 W base ok v l):∃ A c,v = .slice A l.length c∧Lw W A c l:=by
  obtain ⟨A,c,e⟩:=Kd.V_slice h
  subst e
  exact ⟨A,c,rfl,(Kd.V_reads' h).2.2,(Kd.V_reads' h).2.1⟩
theorem sc_loop (l:List Int):∀ (d i:Nat),i + d = l.length→l.length≤1000000000→sconceref03_Same.l0 (d + 1) l l (l.length:Int) (i:Int) = some true:=by
  intro d
  induction d with
  | zero =>
    intro i hi hn
    rw [sconceref03_Same.l0.eq_2,if_neg (by omega)]
  | succ d ih =>
    intro i hi hn
    have e:wrap64 ((i:Int) + 1) = ((i + 1:Nat):Int):=by rw [w64 (by omega) (by omega)];omega
    rw [sconceref03_Same.l0.eq_2,if_pos (by omega),if_pos (by omega),if_pos (by omega),if_pos (by omega),if_pos rfl,e]
    exact ih (i + 1) (by omega) hn
theorem sc_same (l:List Int) (hn:l.length≤1000000000):sconceref03_Same.f (l.length + 1) l l = some true:=by
  unfold sconceref03_Same.f
  rw [if_pos rfl]
  exact sc_loop l l.length 0 (by omega) hn
def ChainsF (k:Nat) (m0:List Int) (m1:Int) (m2 la:List Int) (d e:Int):Option Bool :=
  (sconcelaw09_awake.f k).bind fun t => if t = true then (sconcelaw08_Few.f k m0 m1 m2 la []).bind fun t => if t = true then (sconceref07_Members.f k m0 m1 m2 [la]).bind fun t => if t = true then
    (short_Exp.f k m0 m1 m2 la d).bind fun p => (short_Exp.f k m0 m1 m2 p.1 e).bind fun q => (sconceref03_Small.f k d).bind fun x => (sconceref03_Small.f k e).bind fun y => (sconceref03_Mul.f k x y).bind fun u => (sconceref03_Least.f k u).bind fun s => (short_Quick.f k m0 m1 m2 la s).bind fun z =>
      if (p.2 = 0∧q.2 = 0∧z.2 = 0)∧q.1 = z.1∧q.1.length≤1000 then some true else none
    else some true else some true else some false
theorem Chains_calls (k:Nat) (A0:Option Addr) (c0:Nat) (m0:List Int) (m1:Int) (A2:Option Addr) (c2:Nat) (m2:List Int) (Aa:Option Addr) (ca:Nat) (la:List Int) (d e:Int) (r:Bool) (w:World)
    (hr0:Kd.C (Kd.int .u64) w A0 m0.length m0) (hc0:m0.length≤c0) (hr2:Kd.C (Kd.int .u64) w A2 m2.length m2) (hc2:m2.length≤c2) (hra:Kd.C (Kd.int .u64) w Aa la.length la) (hca:la.length≤ca) (h:ChainsF k m0 m1 m2 la d e = some r) :
    Calls Try.prog 10 #[.agg #[.slice A0 m0.length c0,.int .u64 m1,.slice A2 m2.length c2],.slice Aa la.length ca,.int .u64 d,.int .u64 e] w fun e w' => e = .returned (.bool r)∧Below w.heap.size w w':=by
  have hu59:=Try.underlying26
  unfold ChainsF at h
  cases e1:sconcelaw09_awake.f k with
  | none => rw [e1] at h;exact absurd h (by simp)
  | some t1 =>
  rw [e1,Option.bind_some] at h
  have H0:=Aside0.mk hr0
  have H2:=Aside0.mk hr2
  have HA:=Aside0.mk hra
  have HAW:=Aside0.mk (fun W => sconcelaw09_awake.calls k t1 W e1)
  have HH:=Aside0.mk h
  clear hr0 hr2 hra h e1
  go_enter Try.func10,Try.ntmps10
  go_upto_region 1 with ((with_reducible refine gate_dst (N:=4) rfl ?_);refine box_event ?hg (N:=4) ?hd (cs:=#[.slice A0 m0.length c0,.int .u64 m1,.slice A2 m2.length c2]) (t:=26) ?hr ?_;(case hd => rfl);(case hg => rfl);(case hr => first | (go_simp;done) | (go_simp;rfl));intro gb hgb w3 hbox hb;subst hgb;have HX:=Aside0.mk hbox;have HB3:=Aside0.mk hb;clear hbox hb)
  have HZ:=Aside0.mk (fun (W:World) (hW:Below w3.heap.size w3 W) => And.intro ((blk_cell (blk_below HX.out hW) 0).trans rfl) (And.intro ((blk_cell (blk_below HX.out hW) 1).trans rfl) ((blk_cell (blk_below HX.out hW) 2).trans rfl)))
  have HW:=Aside0.mk (fun (W:World) (hW:Below w3.heap.size w3 W) => below_then HB3.out HB3.out.size hW)
  cases t1 with
  | false =>
    obtain rfl:r = false:=by have:=HH.out;simpa using this.symm
    go_wp2_with (go_at_call 37;(with_reducible refine (HAW.out _).mono ?_);rintro e' w4 ⟨rfl,hb4⟩;have HB:=Aside0.mk hb4;clear hb4)
    go_ret
    exact ⟨rfl,HW.out _ HB.out⟩
  | true =>
  have hh:=HH.out
  rw [if_pos rfl] at hh
  obtain ⟨t2,hf,hh⟩:=Option.bind_eq_some_iff.1 hh
  have HF:=Aside0.mk (fun (W:World) (hW:Below w3.heap.size w3 W) => (show Calls Try.prog 38 #[.agg #[.slice A0 m0.length c0,.int .u64 m1,.slice A2 m2.length c2],.slice Aa la.length ca,.slice none 0 0] W _ from sconcelaw08_Few.calls k A0 c0 m0 m1 A2 c2 m2 Aa ca la none 0 [] t2 W (Kd.C_below H0.out (HW.out _ hW)) hc0 (Kd.C_below H2.out (HW.out _ hW)) hc2 (Kd.C_below HA.out (HW.out _ hW)) hca ⟨rfl,by simp,fun h => absurd h (by simp)⟩ (Nat.le_refl _) hf))
  have HH2:=Aside0.mk hh
  clear hf hh HH
  go_upto_region 3 with (go_at_call 37;(with_reducible refine (HAW.out _).mono ?_);rintro e' w4 ⟨rfl,hb4⟩;have HB:=Aside0.mk hb4;clear hb4)
  obtain ⟨z0,z1,z2⟩:=HZ.out _ HB.out
  cases t2 with
  | false =>
    obtain rfl:r = true:=by have:=HH2.out;simpa using this.symm
    go_wp2_with (go_at_call 38;(with_reducible refine (HF.out _ HB.out).mono ?_);rintro e' w5 ⟨rfl,hb5⟩;have HB:=Aside0.mk (below_then HB.out HB.out.size hb5);clear hb5)
    go_ret
    exact ⟨rfl,HW.out _ HB.out⟩
  | true =>
  have hh:=HH2.out
  rw [if_pos rfl] at hh
  obtain ⟨t3,hm,hh⟩:=Option.bind_eq_some_iff.1 hh
  have HM:=Aside0.mk (show ∀ (W:World),Below w3.heap.size w3 W→Calls Try.prog 34 #[.agg #[.slice A0 m0.length c0,.int .u64 m1,.slice A2 m2.length c2],.slice (some ⟨W.heap.size,0,none⟩) 1 1] (W.alloc (Obj.cells #[.slice Aa la.length ca] 23)) fun e w' => e = .returned (.bool t3)∧Below W.heap.size W w' from by
    intro W hW
    have hl:=below_alloc hW (Obj.cells #[.slice Aa la.length ca] 23)
    refine (sconceref07_Members.calls k A0 c0 m0 m1 A2 c2 m2 _ 1 [la] t3 _ (Kd.C_below H0.out (HW.out _ hl)) hc0 (Kd.C_below H2.out (HW.out _ hl)) hc2 (rg_C1 (blk_new W _) (Kd.C_below HA.out (HW.out _ hl)) hca) (Nat.le_refl _) hm).mono ?_
    rintro e' w' ⟨rfl,hb⟩
    exact ⟨rfl,below_then (below_alloc (Below.refl _ _) _) (below_alloc (Below.refl _ _) _).size hb⟩)
  have HH3:=Aside0.mk hh
  clear hm hh HH2
  cases t3 with
  | false =>
    obtain rfl:r = true:=by have:=HH3.out;simpa using this.symm
    go_wp2_with (first
      | (go_at_call 38;(with_reducible refine (HF.out _ HB.out).mono ?_);rintro e' w5 ⟨rfl,hb5⟩;have HB:=Aside0.mk (below_then HB.out HB.out.size hb5);obtain ⟨z0',z1',z2'⟩:=HZ.out _ HB.out;clear hb5)
      | (go_at_call 34;(with_reducible refine (HM.out _ HB.out).mono ?_);rintro e' w6 ⟨rfl,hb5⟩;have HB:=Aside0.mk (below_then HB.out HB.out.size hb5);clear hb5))
    go_ret
    exact ⟨rfl,HW.out _ HB.out⟩
  | true =>
  have hh:=HH3.out
  rw [if_pos rfl] at hh
  obtain ⟨⟨p,p2⟩,hp,hh1⟩:=Option.bind_eq_some_iff.1 hh
  clear hh
  obtain ⟨⟨q,q2⟩,hq,hh2⟩:=Option.bind_eq_some_iff.1 hh1
  clear hh1
  obtain ⟨x,hx,hh3⟩:=Option.bind_eq_some_iff.1 hh2
  clear hh2
  obtain ⟨y,hy,hh4⟩:=Option.bind_eq_some_iff.1 hh3
  clear hh3
  obtain ⟨u,hu,hh5⟩:=Option.bind_eq_some_iff.1 hh4
  clear hh4
  obtain ⟨s,hs,hh6⟩:=Option.bind_eq_some_iff.1 hh5
  clear hh5
  obtain ⟨⟨z,zz⟩,hz,hh7⟩:=Option.bind_eq_some_iff.1 hh6
  clear hh6 HH3
  dsimp only at hh7 hq
  by_cases hk:(p2 = 0∧q2 = 0∧zz = 0)∧q = z∧q.length≤1000
  · rw [if_pos hk] at hh7
    obtain rfl:r = true:=(Option.some.inj hh7).symm
    clear hh7
    obtain ⟨⟨rfl,rfl,rfl⟩,rfl,hql⟩:=hk
    have HEx:=Aside0.mk (show ∀ (l l':List Int) (n:Int) (A:Option Addr) (c:Nat) (W:World),short_Exp.f k m0 m1 m2 l n = some (l',0)→Below w3.heap.size w3 W→Lw W A c l→Calls Try.prog 39 #[.agg #[.slice A0 m0.length c0,.int .u64 m1,.slice A2 m2.length c2],.slice A l.length c,.int .u64 n] W fun e w' => ∃ A' c',e = .returned (.tuple #[.slice A' l'.length c',.int .i64 0])∧Lw w' A' c' l'∧Below W.heap.size W w' from by
      intro l l' n A c W h1 hW h2
      refine (short_Exp.calls k A0 c0 m0 m1 A2 c2 m2 A c l n l' 0 W (Kd.C_below H0.out (HW.out _ hW)) hc0 (Kd.C_below H2.out (HW.out _ hW)) hc2 h2.1 h2.2 h1).mono ?_
      rintro e' w' ⟨v,rfl,g1,g2⟩
      obtain ⟨A',c',rfl,g3⟩:=Lw.of_R g1
      exact ⟨A',c',rfl,g3,g2⟩)
    have HSm:=Aside0.mk (show ∀ (n:Int) (l:List Int) (W:World),sconceref03_Small.f k n = some l→Calls Try.prog 44 #[.int .u64 n] W fun e w' => ∃ A' c',e = .returned (.slice A' l.length c')∧Bw w' A' c' l∧Below W.heap.size W w' from by
      intro n l W h1
      refine (sconceref03_Small.calls k n l W h1).mono ?_
      rintro e' w' ⟨v,rfl,g1,g2⟩
      obtain ⟨A',c',rfl,g3⟩:=Bw.of_V g1
      exact ⟨A',c',rfl,g3,g2⟩)
    have HMu:=Aside0.mk (show ∀ (A1:Option Addr) (d1:Nat) (A3:Option Addr) (d3:Nat) (W:World),Bw W A1 d1 x→Bw W A3 d3 y→Calls Try.prog 43 #[.slice A1 x.length d1,.slice A3 y.length d3] W fun e w' => ∃ A' c',e = .returned (.slice A' u.length c')∧Bw w' A' c' u∧Below W.heap.size W w' from by
      intro A1 d1 A3 d3 W h1 h3
      refine (sconceref03_Mul.calls k A1 d1 x A3 d3 y u W h1.1 h1.2 h3.1 h3.2 hu).mono ?_
      rintro e' w' ⟨v,rfl,g1,g2⟩
      obtain ⟨A',c',rfl,g3⟩:=Bw.of_V g1
      exact ⟨A',c',rfl,g3,g2⟩)
    have HLe:=Aside0.mk (show ∀ (A1:Option Addr) (d1:Nat) (W:World),Bw W A1 d1 u→Calls Try.prog 42 #[.slice A1 u.length d1] W fun e w' => ∃ A' c',e = .returned (.slice A' s.length c')∧Lw w' A' c' s∧Below W.heap.size W w' from by
      intro A1 d1 W h1
      refine (sconceref03_Least.calls k A1 d1 u s W h1.1 h1.2 hs).mono ?_
      rintro e' w' ⟨v,rfl,g1,g2⟩
      obtain ⟨A',c',rfl,g3⟩:=Lw.of_R g1
      exact ⟨A',c',rfl,g3,g2⟩)
    have HQu:=Aside0.mk (show ∀ (A1:Option Addr) (d1:Nat) (W:World),Below w3.heap.size w3 W→Lw W A1 d1 s→Calls Try.prog 41 #[.agg #[.slice A0 m0.length c0,.int .u64 m1,.slice A2 m2.length c2],.slice Aa la.length ca,.slice A1 s.length d1] W fun e w' => ∃ A' c',e = .returned (.tuple #[.slice A' q.length c',.int .i64 0])∧Lw w' A' c' q∧Below W.heap.size W w' from by
      intro A1 d1 W hW h1
      refine (short_Quick.calls k A0 c0 m0 m1 A2 c2 m2 Aa ca la A1 d1 s q 0 W (Kd.C_below H0.out (HW.out _ hW)) hc0 (Kd.C_below H2.out (HW.out _ hW)) hc2 (Kd.C_below HA.out (HW.out _ hW)) hca h1.1 h1.2 hz).mono ?_
      rintro e' w' ⟨v,rfl,g1,g2⟩
      obtain ⟨A',c',rfl,g3⟩:=Lw.of_R g1
      exact ⟨A',c',rfl,g3,g2⟩)
    have HSa:=Aside0.mk (fun (A1:Option Addr) (d1:Nat) (A3:Option Addr) (d3:Nat) (W:World) (h1:Lw W A1 d1 q) (h3:Lw W A3 d3 q) => sconceref03_Same.calls (q.length + 1) A1 d1 q A3 d3 q true W h1.1 h1.2 h3.1 h3.2 (sc_same q (by omega)))
    have HQ:=Aside0.mk (And.intro hp (And.intro hq (And.intro hx hy)))
    clear hp hq hx hy hu hs hz hql
    go_upto_region 5 with (first
      | (go_at_call 38;(with_reducible refine (HF.out _ HB.out).mono ?_);rintro e' w5 ⟨rfl,hb5⟩;have HB:=Aside0.mk (below_then HB.out HB.out.size hb5);obtain ⟨z0',z1',z2'⟩:=HZ.out _ HB.out;clear hb5)
      | (go_at_call 34;(with_reducible refine (HM.out _ HB.out).mono ?_);rintro e' w6 ⟨rfl,hb5⟩;have HB:=Aside0.mk (below_then HB.out HB.out.size hb5);obtain ⟨y0',y1',y2'⟩:=HZ.out _ HB.out;clear hb5))
    go_upto_region 6 with (go_at_call 39;(with_reducible refine (HEx.out la p d Aa ca _ HQ.out.1 HB.out (Lw.of (Kd.C_below HA.out (HW.out _ HB.out)) hca)).mono ?_);rintro e' w7 ⟨A7,c7,rfl,r7,hb7⟩;have R7:=Aside0.mk r7;have HB:=Aside0.mk (below_then HB.out HB.out.size hb7);obtain ⟨y0'',y1'',y2''⟩:=HZ.out _ HB.out;clear r7 hb7)
    go_upto_region 7 with (go_at_call 39;(with_reducible refine (HEx.out p q e A7 c7 _ HQ.out.2.1 HB.out R7.out).mono ?_);rintro e' w8 ⟨A8,c8,rfl,r8,hb8⟩;have R8:=Aside0.mk r8;have HB:=Aside0.mk (below_then HB.out HB.out.size hb8);clear r8 hb8)
    replace HB:=Aside0.mk (Below.drew HB.out)
    replace R8:=Aside0.mk (R8.out.below (Below.drew (Below.refl _ _)))
    have hz:=HZ.out _ HB.out
    go_region_held3 (fun w' => w'.cell? ⟨w.heap.size,0,none⟩ = some (.slice A0 m0.length c0)∧w'.cell? ⟨w.heap.size,1,none⟩ = some (.int .u64 m1)∧w'.cell? ⟨w.heap.size,2,none⟩ = some (.slice A2 m2.length c2)) (first | exact HZ.out _ HB.out)
      (first
        | (go_at_call 44;(with_reducible refine (HSm.out d x _ HQ.out.2.2.1).mono ?_);rintro e' w9 ⟨A9,c9,rfl,r9,hb9⟩;have R9:=Aside0.mk r9;have R8:=Aside0.mk (R8.out.below hb9);have HB:=Aside0.mk (below_then HB.out HB.out.size hb9);have HS1:=Aside0.mk HSm.out;clear HSm r9 hb9)
        | (go_at_call 44;(with_reducible refine (HS1.out e y _ HQ.out.2.2.2).mono ?_);rintro e' w10 ⟨A10,c10,rfl,r10,hb10⟩;have R10:=Aside0.mk r10;have R8:=Aside0.mk (R8.out.below hb10);have R9:=Aside0.mk (R9.out.below hb10);have HB:=Aside0.mk (below_then HB.out HB.out.size hb10);clear r10 hb10)
        | (go_at_call 43;(with_reducible refine (HMu.out _ _ _ _ _ R9.out R10.out).mono ?_);rintro e' w11 ⟨A11,c11,rfl,r11,hb11⟩;have R11:=Aside0.mk r11;have R8:=Aside0.mk (R8.out.below hb11);have HB:=Aside0.mk (below_then HB.out HB.out.size hb11);clear r11 hb11)
        | (go_at_call 42;(with_reducible refine (HLe.out _ _ _ R11.out).mono ?_);rintro e' w12 ⟨A12,c12,rfl,r12,hb12⟩;have R12:=Aside0.mk r12;have R8:=Aside0.mk (R8.out.below hb12);have HB:=Aside0.mk (below_then HB.out HB.out.size hb12);clear r12 hb12)
        | (go_at_call 41;(with_reducible refine (HQu.out _ _ _ HB.out R12.out).mono ?_);rintro e' w13 ⟨A13,c13,rfl,r13,hb13⟩;have R13:=Aside0.mk r13;have R8:=Aside0.mk (R8.out.below hb13);have HB:=Aside0.mk (below_then HB.out HB.out.size hb13);clear r13 hb13))
    go_wp2_with (go_at_call 21;(with_reducible refine (HSa.out _ _ _ _ _ R8.out R13.out).mono ?_);rintro e' w14 ⟨rfl,n14,rfl⟩;have HB:=Aside0.mk (pw_below_drewN HB.out n14))
    go_ret
    exact ⟨rfl,HW.out _ HB.out⟩
  · rw [if_neg hk] at hh7
    exact absurd hh7 (by simp)
end Go.Proofs.Ytonpekldcnankaa.X
end
section
namespace Go.Proofs.Ytonpekldcnankaa.X
open Go.RowKit Go.Proofs.YtonpekldcnankaaW.PrintWords Go.Proofs.YtonpekldcnankaaW.PrintLast Go.Proofs.YtonpekldcnankaaW.PrintMore
attribute [local go_sem] max2_int min2_int max_two min_two max_three min_three max_four min_four
set_option linter.unusedVariables false
set_option linter.unusedSimpArgs false
def sconcelaw09_ShortChains.f (k:Nat) (m0:List Int) (m1:Int) (m2:List Int) (la:List Int) (d e:Int):Option Bool:=ChainsF k m0 m1 m2 la d e
theorem sconcelaw09_ShortChains.calls (k:Nat) (A0_0:Option Addr) (c0_0:Nat) (l0_0:List Int) (a0_1:Int) (A0_2:Option Addr) (c0_2:Nat) (l0_2:List Int) (A1:Option Addr) (c1:Nat) (l1:List Int) (a2:Int) (a3:Int) (r:Bool) (w:World) (hr0_0:Kd.C (Kd.int .u64) w A0_0 l0_0.length l0_0) (hc0_0:l0_0.length≤c0_0) (hr0_2:Kd.C (Kd.int .u64) w A0_2 l0_2.length l0_2) (hc0_2:l0_2.length≤c0_2) (hr1:Kd.C (Kd.int .u64) w A1 l1.length l1) (hc1:l1.length≤c1) (h:sconcelaw09_ShortChains.f k l0_0 a0_1 l0_2 l1 a2 a3 = some r) :
  Calls Try.prog 10 #[.agg #[.slice A0_0 l0_0.length c0_0,.int .u64 a0_1,.slice A0_2 l0_2.length c0_2],.slice A1 l1.length c1,.int .u64 a2,.int .u64 a3] w fun e w' => e = .returned (.bool r)∧Below w.heap.size w w' :=
 Chains_calls k A0_0 c0_0 l0_0 a0_1 A0_2 c0_2 l0_2 A1 c1 l1 a2 a3 r w hr0_0 hc0_0 hr0_2 hc0_2 hr1 hc1 h
end Go.Proofs.Ytonpekldcnankaa.X
end
section
namespace Go.Proofs.Ytonpekldcnankaa.X
open Go.RowKit
def sconcelaw09_ShortChains.PureS:Prop:=∀ (l0_0:List Int) (b0_1:Int) (l0_2:List Int) (l1:List Int) (b2:Int) (b3:Int),l0_0.length≤maxLen→(∀ x ∈ l0_0,(Lit.int .u64 x).wf = true)→(Lit.int .u64 b0_1).wf = true→l0_2.length≤maxLen→(∀ x ∈ l0_2,(Lit.int .u64 x).wf = true)→l1.length≤maxLen→(∀ x ∈ l1,(Lit.int .u64 x).wf = true)→(Lit.int .u64 b2).wf = true→(Lit.int .u64 b3).wf = true→∃ k,sconcelaw09_ShortChains.f k l0_0 b0_1 l0_2 l1 b2 b3 = some true
end Go.Proofs.Ytonpekldcnankaa.X
end
section
namespace Go.Proofs.Ytonpekldcnankaa.X
open Go.RowKit Go.Proofs.YtonpekldcnankaaW.PrintWords Go.Proofs.YtonpekldcnankaaW.PrintMore Go.Proofs.YtonpekldcnankaaW.PrintLast Go.Proofs.Ytonpekldcnankaa.Ma
set_option linter.unusedVariables false
set_option linter.unusedSimpArgs false
section
variable {m rr a e:List Int} {K:Int} {R:List Int × Int × List Int × Int}
theorem sp_short_Quick (hm:Wd m) (lm:m.length≤300) (hR:SetR (nW m) R) (ha:Wd a) (he:Wd e) (le:e.length≤1000) :
    Ev (fun k => short_Quick.f k m K rr a e) (if (chkB R m K rr && [a].all (memB m)) = true then (if 300 < e.length then ([],2) else (wds m.length (nW a ^ nW e % nW m),0)) else ([],1)):=by
  have hl1:∀ r ∈ [a],Wd r:=by simp [ha]
  have h1:Ev (fun k => ring_Neg.f k m K rr a) _:=sp_out (K:=K) (rr:=rr) hm lm hR hl1 (wds m.length ((nW m - nW a) % nW m))
  obtain ⟨S,s1,s2⟩:=sp_mont_Check (rr:=rr) (K:=K) hm (by omega)
  obtain rfl:=hR.uniq s1
  unfold short_Quick.f
  by_cases h:(chkB R m K rr && [a].all (memB m)) = true
  · obtain ⟨g1,g2⟩:=Bool.and_eq_true_iff.1 h
    rw [if_pos h] at h1 ⊢
    rw [g1] at s2
    refine ev_bind h1 (ev_pos rfl ?_)
    by_cases hl:300 < e.length
    · rw [if_pos hl]
      exact ev_pos (by omega) (ev_const rfl)
    · rw [if_neg hl]
      refine ev_neg (by omega) (ev_bind (a:=wds m.length (nW a ^ nW e % nW m)) ?_ (ev_const rfl))
      unfold short_Raw.f
      exact ev_pos ⟨Rg.ok_iff.2 ⟨⟨hm,hl1⟩,lm⟩,g2,wd_all.2 he,le⟩ (ev_bind s2 (ev_pos rfl (ev_const rfl)))
  · rw [if_neg h] at h1 ⊢
    exact ev_bind h1 (ev_neg (by decide) (ev_const rfl))
theorem sp_short_Exp {x:Int} (hm:Wd m) (lm:m.length≤300) (hR:SetR (nW m) R) (ha:Wd a) (hx:wd x = true) :
    Ev (fun k => short_Exp.f k m K rr a x) (if (chkB R m K rr && [a].all (memB m)) = true then (wds m.length (nW a ^ x.toNat % nW m),0) else ([],1)):=by
  have hwx:Wd [x]:=wd_all.1 (by simp [hx])
  have h:=sp_short_Quick (K:=K) (rr:=rr) (e:=[x]) hm lm hR ha hwx (by simp)
  have e1:nW [x] = x.toNat:=by simp [num]
  rw [e1,if_neg (show ¬ 300 < [x].length by simp)] at h
  unfold short_Exp.f
  exact ev_bind h (ev_const rfl)
end
theorem sp_few8 (m:List Int) (K:Int) (rr a e:List Int):Ev (fun k => sconcelaw08_Few.f k m K rr a e) ((fewB 40 [m,rr] && fewB 40 [a]) && (decide (m.length≤10) && (decide (e.length≤6) || decide (e.length = 301)))):=by
  unfold sconcelaw08_Few.f
  refine ev_bind (sp_few7 m K rr [a] (by simp)) ?_
  by_cases h:(fewB 40 [m,rr] && fewB 40 [a]) = true
  · rw [h,Bool.true_and]
    refine ev_pos rfl ?_
    by_cases h2:m.length≤10
    · rw [decide_eq_true h2,Bool.true_and]
      refine ev_pos (by omega) ?_
      by_cases h3:e.length≤6
      · rw [decide_eq_true h3,Bool.true_or]
        exact ev_pos (by omega) (ev_const rfl)
      · rw [decide_eq_false h3,Bool.false_or]
        refine ev_neg (by omega) (ev_const ?_)
        congr 1
        by_cases h4:e.length = 301
        · rw [decide_eq_true h4];exact beq_iff_eq.2 (by omega)
        · rw [decide_eq_false h4];exact beq_eq_false_iff_ne.2 (by omega)
    · rw [decide_eq_false h2,Bool.false_and]
      exact ev_neg (by omega) (ev_const rfl)
  · rw [Bool.not_eq_true] at h
    rw [h,Bool.false_and]
    exact ev_neg (by decide) (ev_const rfl)
theorem awake9:Ev (fun k => sconcelaw09_awake.f k) true:=Ev.of (fun k => sconcelaw09_awake.mono k) (k:=130) (by kernel_rfl)
end Go.Proofs.Ytonpekldcnankaa.X
end
section
namespace Go.Proofs.Ytonpekldcnankaa.Pure
open Go.RowKit Go.Proofs.Ytonpekldcnankaa.X Go.Proofs.YtonpekldcnankaaW.PrintWords Go.Proofs.YtonpekldcnankaaW.PrintLast Go.Proofs.Ytonpekldcnankaa.Ma
set_option linter.unusedVariables false
set_option linter.unusedSimpArgs false
theorem ShortChains:sconcelaw09_ShortChains.PureS:=by
  intro m K rr a x y _ hm _ _ _ _ ha hx hy
  rw [wf_Wd] at hm ha
  have hx:=wd_wf.1 hx
  have hy:=wd_wf.1 hy
  refine Ev.rounds ?_
  unfold sconcelaw09_ShortChains.f ChainsF
  refine ev_bind awake9 (ev_pos rfl (ev_bind (sp_few8 _ _ _ _ _) ?_))
  by_cases h:((fewB 40 [m,rr] && fewB 40 [a]) && (decide (m.length≤10) && (decide (([]:List Int).length≤6) || decide (([]:List Int).length = 301)))) = true
  · have h':((m.length≤40∧rr.length≤40)∧a.length≤40)∧m.length≤10:=by simpa [fewB] using h
    obtain ⟨R,hR,_⟩:=sp_mont_Check (rr:=rr) (K:=K) hm (by omega)
    refine ev_pos h (ev_bind (sp_ref7_Members (K:=K) (rr:=rr) hm (by omega) hR [a] (by simp [ha]) (by simp)) ?_)
    by_cases g:(chkB R m K rr && [a].all (memB m)) = true
    · refine ev_pos g ?_
      have hI:=isMod_of_chk hR (Bool.and_eq_true_iff.1 g).1
      have hM1:=hI.2.2.1
      have hM:=nW_lt hm
      obtain ⟨d,rfl⟩:∃ d:Nat,x = (d:Int):=⟨x.toNat,by have:=wd_iff.1 hx;omega⟩
      obtain ⟨e,rfl⟩:∃ e:Nat,y = (e:Int):=⟨y.toNat,by have:=wd_iff.1 hy;omega⟩
      have hd:=(wd_iff.1 hx).2
      have he:=(wd_iff.1 hy).2
      have hr1:nW a ^ d % nW m < nW m:=Nat.mod_lt _ (by omega)
      have h1:=sp_short_Exp (K:=K) (rr:=rr) hm (by omega) hR ha hx
      rw [if_pos g,Int.toNat_natCast] at h1
      have hn1:nW (wds m.length (nW a ^ d % nW m)) = nW a ^ d % nW m:=nW_wds (by omega)
      have g2:(chkB R m K rr && [wds m.length (nW a ^ d % nW m)].all (memB m)) = true:=by
        rw [(Bool.and_eq_true_iff.1 g).1,Bool.true_and]
        have:memB m (wds m.length (nW a ^ d % nW m)) = true:=by unfold memB;rw [hn1,dgs_length];simp [hr1]
        simp [this]
      have h2:=sp_short_Exp (K:=K) (rr:=rr) hm (by omega) hR (wds_Wd m.length (nW a ^ d % nW m)) hy
      rw [if_pos g2,Int.toNat_natCast,hn1] at h2
      have hde:d * e < 18446744073709551616 ^ 2:=by
        have:d * e < 18446744073709551616 * 18446744073709551616:=Nat.mul_lt_mul'' (by omega) (by omega)
        rw [Nat.pow_succ,Nat.pow_one]
        exact this
      have hwl:wlen (d * e)≤2:=wlen_le hde
      have hbd:∀ z,z < 18446744073709551616→blen z≤2:=fun z hz => blen_le (Nat.lt_of_lt_of_le hz (by decide))
      have hbde:blen (d * e)≤4:=blen_mul (hbd d (by omega)) (hbd e (by omega))
      have hLw:Wd (wds (max (wlen (d * e)) 1) (d * e)):=wds_Wd _ _
      have hLn:nW (wds (max (wlen (d * e)) 1) (d * e)) = d * e:=nW_wds (Nat.lt_of_lt_of_le (wlen_lt _) (Nat.pow_le_pow_right (by decide) (Nat.le_max_left _ _)))
      have h3:=sp_short_Quick (K:=K) (rr:=rr) hm (by omega) hR ha hLw (by rw [dgs_length];omega)
      rw [if_pos g,dgs_length,if_neg (by omega),hLn] at h3
      have heq:(nW a ^ d % nW m) ^ e % nW m = nW a ^ (d * e) % nW m:=by rw [← Nat.pow_mod,← Nat.pow_mul]
      rw [heq] at h2
      refine ev_bind h1 (ev_bind h2 (ev_bind (sp_Small (by omega)) (ev_bind (sp_Small (by omega)) ?_)))
      refine ev_bind (sp_ref_Mul (Nat.le_trans (hbd d (by omega)) (by decide)) (Nat.le_trans (hbd e (by omega)) (by decide))) ?_
      exact ev_bind (sp_Least (by omega)) (ev_bind h3 (ev_pos ⟨⟨rfl,rfl,rfl⟩,rfl,by simp only [dgs_length];omega⟩ (ev_const rfl)))
    · exact ev_neg g (ev_const rfl)
  · exact ev_neg h (ev_const rfl)
end Go.Proofs.Ytonpekldcnankaa.Pure
end
