/- Texts of the walk and of the plain laws, laid together by a program: X2. -/
import Derived.Test.YtonpekldcnankaaZC9
set_option maxHeartbeats 8000000
set_option maxRecDepth 100000
namespace Go.Proofs.Ytonpekldcnankaa.X
open Go.RowKit Go.Proofs.YtonpekldcnankaaW.PrintWords Go.Proofs.YtonpekldcnankaaW.PrintLast Go.Proofs.YtonpekldcnankaaW.PrintMore
attribute [local go_sem] max2_int min2_int max_two min_two max_three min_three max_four min_four
set_option linter.unusedVariables false
set_option linter.unusedSimpArgs false
theorem limbs_Select_1 (x y b r:Int) (bk:Nat) (w:World) (hk:w.heap[bk]? = some (.cells #[.int .u64 b] 24 (0,0))) (h:word_Select.f b x y = some r) :
  Calls Try.prog 147 #[.int .u64 x,.int .u64 y,.pointer (some ⟨bk,0,none⟩)] w fun e w' => e = .returned (.int .u64 r)∧Upd w w' bk (.int .u64 b) 24:=by
 have ck:=cell_of_one hk
 have HK:=Aside0.mk hk
 clear hk
 have H:=Aside0.mk h
 clear h
 go_enter Try.func147,Try.ntmps147
 go_wp2_with (go_at_call 148;refine (word_Select.calls _ _ _ r _ H.out).mono ?_;rintro e w' ⟨rfl,⟨n,rfl⟩⟩)
 go_ret
 exact ⟨rfl,Upd.same HK.out _⟩
theorem limbs_each_Select (n:Nat) (A1 A2:Option Addr) (c1 c2:Nat) (l1 l2:List Int) (bk:Nat) (D cy:Nat→Int) (w0 w:World)
  (hr1:Kd.C (Kd.int .u64) w0 A1 l1.length l1) (hc1:l1.length≤c1) (hr2:Kd.C (Kd.int .u64) w0 A2 l2.length l2) (hc2:l2.length≤c2)
  (hn:(if l1.length < l2.length then (l2.length:Int) else (l1.length:Int)) = (n:Int)) (hn2:n≤35184372088832)
  (hB:Below w0.heap.size w0 w) (hbk:w0.heap.size≤bk) (hk:w.heap[bk]? = some (.cells #[.int .u64 (cy 0)] 24 (0,0)))
  (hst:∀ i,i < n→∀ W:World,W.heap[bk]? = some (.cells #[.int .u64 (cy i)] 24 (0,0)) →
   Calls Try.prog 147 #[.int .u64 (Ma.at0 l1 i),.int .u64 (Ma.at0 l2 i),.pointer (some ⟨bk,0,none⟩)] W fun e W' => e = .returned (.int .u64 (D i))∧Upd W W' bk (.int .u64 (cy (i + 1))) 24) :
  Calls Try.prog 142 #[.pointer none,.slice A1 l1.length c1,.slice A2 l2.length c2,.func (.func 147) #[] #[.pointer (some ⟨bk,0,none⟩)]] w fun e w' =>
   ∃ v,e = .returned v∧Kd.R (Kd.int .u64) 24 w' w.heap.size (fun _ => True) v (Ma.mk D n)∧Below w0.heap.size w0 w'∧w'.heap[bk]? = some (.cells #[.int .u64 (cy n)] 24 (0,0)):=by
 have HR1:=Aside0.mk hr1
 have HR2:=Aside0.mk hr2
 have HK:=Aside0.mk hk
 have HB:=Aside0.mk hB
 have HST:=Aside0.mk hst
 have lbk:=blk_lt hk
 clear hr1 hr2 hk hB hst
 go_enter Try.func142,Try.ntmps142
 go_wp2_with (first
  | (go_at_call 145;refine (trace_Trace_Span.calls _ _ rfl).mono ?_;rintro e w1 ⟨rfl,hb1⟩)
  | ((with_reducible refine gate_dst (N:=21) rfl ?_);refine Kd.R_make (Kd.int .u64) _ 24 rfl (N:=21) rfl 23 _ _ rfl (n:Int) rfl rfl Try.underlying23 (.int .u64 0) 8 info24 rfl (by decide) (by omega) 0 (ok:=fun k_ => w.heap.size≤k_) (okp:=fun k_ => w.heap.size≤k_) rfl (fun _ hk => hk) hb1.size (by omega) (by simp only [Int.toNat_natCast];omega) (Below.refl _ _) (Nat.le_refl _) ?_;intro v2 w2 ho2 hb2 hg2 hnew2;clear hg2 hnew2;simp only [Int.toNat_natCast] at ho2;have HO:=Aside0.mk (Kd.R_lower ho2 hb1.size);have HB2:=Aside0.mk (below_then hb1 hb1.size hb2);clear ho2 hb2 hb1;obtain ⟨Ao,co,eo⟩:=Kd.R_slice HO.out;rw [List.length_replicate] at eo;subst eo))
 have HB3:=Aside0.mk (below_then HB.out HB.out.size HB2.out)
 have HK3:=Aside0.mk ((HB2.out.block bk lbk).trans HK.out)
 clear HB HK
 obtain ⟨wB,hwB⟩:∃ q,q = w.heap.size:=⟨_,rfl⟩
 rw [← hwB] at HO lbk
 have HWB:=Aside0.mk hwB
 clear hwB HB2
 go_loopg [23] (n + 1) (fun q v23 wr => ∃ i:Nat,i + q = n + 1∧i≤n∧v23 = .int .i64 i∧Aside0 (Kd.R (Kd.int .u64) 24 wr wB (fun k_ => wB≤k_) (.slice Ao n co) (Ma.mk D i ++ List.replicate (n - i) 0))∧Aside0 (Below w0.heap.size w0 wr)∧Aside0 (wr.heap[bk]? = some (.cells #[.int .u64 (cy i)] 24 (0,0))))
 case atStart => exact ⟨0,by omega,by omega,rfl,⟨by simpa [Ma.mk] using HO.out⟩,HB3,HK3⟩
 case round =>
  clear HB3 HK3 HO
  obtain ⟨i,hiq,hin,rfl,HO,HB,HK⟩:=hrel
  have hl:=Ma.mk_full_length D hin
  cases gk with
  | zero => omega
  | succ k1 =>
   by_cases hlt:i < n
   ·
    have d1:decide ((i:Int) < (n:Int)) = true:=decide_eq_true (by omega)
    have d2:decide (i < n) = true:=decide_eq_true hlt
    have HE:=Aside0.mk hiq
    clear hiq
    go_wp2_with (first
     | ((with_reducible refine gate_callee (f:=165) rfl ?_);refine goesL_ (some 31) rfl rfl Try.func165 (by kernel_rfl) rfl #[.slice A1 l1.length c1,.int .i64 (i:Int)] rfl (by (try simp only [List.map_toArray,List.map_cons,List.map_nil]);first | done | rfl) ?_;(with_reducible refine (limbs_at.calls _ _ l1 (i:Int) (Ma.at0 l1 i) _ ?s1 hc1 (sp_limbs_at l1 i)).mono ?_);(case s1 => exact Kd.C_below HR1.out (pw_below_drewN HB.out 0));rintro e w' ⟨rfl,⟨nd,rfl⟩⟩;refine ⟨_,rfl,?_⟩)
     | ((with_reducible refine gate_callee (f:=165) rfl ?_);refine goesL_ (some 34) rfl rfl Try.func165 (by kernel_rfl) rfl #[.slice A2 l2.length c2,.int .i64 (i:Int)] rfl (by (try simp only [List.map_toArray,List.map_cons,List.map_nil]);first | done | rfl) ?_;(with_reducible refine (limbs_at.calls _ _ l2 (i:Int) (Ma.at0 l2 i) _ ?s2 hc2 (sp_limbs_at l2 i)).mono ?_);(case s2 => exact Kd.C_below HR2.out (pw_below_drewN HB.out _));rintro e w' ⟨rfl,⟨nd2,rfl⟩⟩;refine ⟨_,rfl,?_⟩))
    refine (HST.out i hlt _ (by exact HK.out)).mono ?_
    rintro e w3 ⟨rfl,hp⟩
    have HO3:=Aside0.mk (hp.row (Kd.R_drewN HO.out _) (fun k hk => by omega))
    have HK3:=Aside0.mk hp.at_
    have HB3:=Aside0.mk (hp.below (pw_below_drewN HB.out _) hbk)
    clear hp HO HK HB
    obtain ⟨go,co2,eo,gb,gl,cl,HG⟩:=Kd.R_form HO3.out (by rw [hl];omega)
    rw [hl] at eo
    cases eo
    have p1:(0:Int)≤(i:Int):=by omega
    have q1:(i:Int) < (n:Int):=by omega
    obtain ⟨hx,hf⟩:=Kd.R_celln 0 HO3.out (i:Int) p1 q1
    have hP:=(Kd.R_putg HO3.out (i:Int) (D i)).1
    simp only [Int.toNat_natCast] at hx hf hP
    rw [Ma.mk_set D hlt] at hP
    have HP:=Aside0.mk hP
    clear HG cl hP
    go_wp2_with ((with_reducible refine gate_store (t:=24) (p:=36) rfl ?_);refine store_event (t:=24) (p:=36) (v:=?vo) (w1:=(w3.setCell ⟨go,i,none⟩ (.int .u64 (D i)))) ?hg ?ho ?hn ?hr ?_;(case ho => rfl);(case hg => rfl);(case hn => rfl);(case hr => first | (go_simp;done) | (go_simp;rfl));intro w4 hw;have HO4:=Aside0.mk (show Kd.R (Kd.int .u64) 24 w4 wB (fun k_ => wB≤k_) (.slice (some ⟨go,0,none⟩) n co) (Ma.mk D (i + 1) ++ List.replicate (n - (i + 1)) 0) from by rw [hw];exact HP.out);have HB4:=Aside0.mk (show Below w0.heap.size w0 w4 from by rw [hw];exact below_set HB3.out (by omega));have HK4:=Aside0.mk (show w4.heap[bk]? = some (.cells #[.int .u64 (cy (i + 1))] 24 (0,0)) from by rw [hw];exact blk_far HK3.out (by show bk≠go;omega) _);clear hw HP HO3 HB3 HK3 hx hf)
    go_roundg k1
    case measure => omega
    case rel => exact ⟨i + 1,by have:=HE.out;omega,by omega,by go_num,HO4,HB4,HK4⟩
   ·
    have hin':i = n:=by omega
    subst hin'
    have d1:decide ((i:Int) < (i:Int)) = false:=decide_eq_false (by omega)
    have d2:decide (i < i) = false:=decide_eq_false hlt
    go_wp2
    go_ret
    have h:=HO.out
    rw [HWB.out] at h
    exact ⟨_,rfl,by simpa using Kd.R_mono h (fun _ _ => trivial),HB.out,HK.out⟩
def limbs_Select.f (a1:Int) (l2 l3:List Int):Option (List Int) :=
 if (Ma.wd a1 = true∧max l2.length l3.length≤35184372088832)∧l2.all Ma.wd = true∧l3.all Ma.wd = true then some (Ma.mk (Ma.at0 (if a1 % 2 = 1 then l2 else l3)) (max l2.length l3.length)) else none
theorem mask_val_Select {a:Int} (ha:Ma.wd a = true):word_Mask.f a = some (if a % 2 = 1 then 18446744073709551615 else 0):=by
 rw [Ma.wd_iff] at ha
 unfold word_Mask.f;rw [Ma.b_and1 ha.1 ha.2,Ma.wU]
 congr 1;split <;> omega
theorem Select_step {a1:Int} {l2 l3:List Int} (h1:Ma.wd a1 = true) (h2:l2.all Ma.wd = true) (h3:l3.all Ma.wd = true) (i:Nat) :
  word_Select.f a1 (Ma.at0 l2 i) (Ma.at0 l3 i) = some (Ma.at0 (if a1 % 2 = 1 then l2 else l3) i):=by
 have x2:=Ma.at0_dg (by decide) (Ma.wds_dg.1 h2) i
 have x3:=Ma.at0_dg (by decide) (Ma.wds_dg.1 h3) i
 unfold word_Select.f;rw [mask_val_Select h1]
 simp only [Option.bind_some]
 congr 1
 split
 ·
  rw [Ma.b_and_all x2.1 x2.2,Ma.b_andNot_all x3.1 x3.2,Ma.b_or_0 x2.1 x2.2]
 ·
  rw [Ma.b_and_0 x2.1 x2.2,Ma.b_andNot_0 x3.1 x3.2,Ma.b_0_or x3.1 x3.2]
theorem limbs_Select.calls (a1:Int) (A2:Option Addr) (c2:Nat) (l2:List Int) (A3:Option Addr) (c3:Nat) (l3:List Int) (r:List Int) (w:World) (hr2:Kd.C (Kd.int .u64) w A2 l2.length l2) (hc2:l2.length≤c2) (hr3:Kd.C (Kd.int .u64) w A3 l3.length l3) (hc3:l3.length≤c3) (h:limbs_Select.f a1 l2 l3 = some r) :
  Calls Try.prog 108 #[.pointer none,.int .u64 a1,.slice A2 l2.length c2,.slice A3 l3.length c3] w fun e w' => ∃ v0_:Value,e = .returned (v0_)∧Kd.R (Kd.int .u64) 24 w' w.heap.size (fun _ => True) v0_ r∧Below w.heap.size w w':=by
 unfold limbs_Select.f at h
 split at h
 ·
  rename_i hc
  obtain ⟨⟨h1,hn2⟩,h2,h3⟩:=hc
  obtain rfl:=Option.some.inj h
  have hst:=Select_step h1 h2 h3
  obtain ⟨D,hD⟩:∃ D:Nat→Int,D = Ma.at0 (if a1 % 2 = 1 then l2 else l3):=⟨_,rfl⟩
  simp only [← hD] at hst ⊢
  have HST:=Aside0.mk hst
  clear h1 h2 h3 h hst hD
  have HR2:=Aside0.mk hr2
  have HR3:=Aside0.mk hr3
  clear hr2 hr3
  obtain ⟨n,hn⟩:∃ n,n = max l2.length l3.length:=⟨_,rfl⟩
  rw [← hn] at hn2 ⊢
  have HN:=Aside0.mk hn
  clear hn
  obtain ⟨hb2,hb3⟩:=one_box w 0 (.int .u64 a1) 24
  have HB2:=Aside0.mk hb2
  have HB3:=Aside0.mk hb3
  clear hb2 hb3
  go_enter Try.func108,Try.ntmps108
  go_wp2_with fail
  refine (limbs_each_Select n A2 A3 c2 c3 l2 l3 w.heap.size D (fun _ => a1) w _ HR2.out hc2 HR3.out hc3 (by have:=HN.out;split <;> omega) hn2 (by exact HB3.out) (Nat.le_refl _) (by exact HB2.out) (fun i _ W k2 => limbs_Select_1 _ _ a1 _ _ W k2 (HST.out i))).mono ?_
  rintro e w3 ⟨v,rfl,hR,hB,hK⟩
  have hz:=below_size HB3.out
  have HR:=Aside0.mk (Kd.R_lower hR hz)
  have HB:=Aside0.mk hB
  clear hR hB hz hK
  go_wp2
  go_ret
  exact ⟨v,rfl,HR.out,HB.out⟩
 ·
  exact absurd h (by simp)
def sconceref03_Same.l0:Nat→List Int→List Int→Int→Int→Option (Bool)
 | 0,_,_,_,_ => none
 | k + 1,x0,x1,x12,x13 => if x13 < x12 then (if 0≤x13 then (if x13 < (x0.length:Int) then (if x13 < (x1.length:Int) then (if (rd x0 x13) = (rd x1 x13) then (sconceref03_Same.l0 k x0 x1 x12 (wrap64 (x13 + 1))) else (some false)) else (none)) else (none)) else (none)) else (some true)
def sconceref03_Same.f (k:Nat) (l0:List Int) (l1:List Int):Option (Bool):=if (l0.length:Int) = (l1.length:Int) then (sconceref03_Same.l0 k l0 l1 (l0.length:Int) 0) else (some false)
theorem sconceref03_Same.calls (k:Nat) (A0:Option Addr) (c0:Nat) (l0:List Int) (A1:Option Addr) (c1:Nat) (l1:List Int) (r:Bool) (w:World) (hr0:Kd.C (Kd.int .u64) w A0 l0.length l0) (hc0:l0.length≤c0) (hr1:Kd.C (Kd.int .u64) w A1 l1.length l1) (hc1:l1.length≤c1) (h:sconceref03_Same.f k l0 l1 = some r) :
  Calls Try.prog 21 #[.slice A0 l0.length c0,.slice A1 l1.length c1] w fun e w' => e = .returned (.bool r)∧Drawn0 w w':=by
 have HR0:=Aside0.mk hr0
 have HC0:=Aside0.mk hc0
 clear hr0 hc0
 have HR1:=Aside0.mk hr1
 have HC1:=Aside0.mk hc1
 clear hr1 hc1
 have H:(if (l0.length:Int) = (l1.length:Int) then (sconceref03_Same.l0 k l0 l1 (l0.length:Int) 0) else (some false)) = some r:=h
 clear h
 by_cases c3:(l0.length:Int) = (l1.length:Int)
 ·
  rw [if_pos c3] at H
  have c3b0:((l0.length:Int) == (l1.length:Int)) = true:=beq_iff_eq.mpr c3
  have c3b1:((l0.length:Int) != (l1.length:Int)) = false:=bne_eq_false_iff_eq.mpr c3
  have c3b2:(l0.length == l1.length) = true:=by first | simpa using c3 | (simp at c3 ⊢;omega)
  clear c3
  have H':=Aside0.mk H
  clear H
  go_enter Try.func21,Try.ntmps21
  go_wp2
  repeat (go_quiet (fail);try go_wp2)
  go_loopg [13] k (fun kq v13 w' => ∃ (x13_1:Int),v13 = .int .i64 x13_1∧Aside0 (sconceref03_Same.l0 kq l0 l1 (l0.length:Int) x13_1 = some r)∧Aside0 (kq≤k)∧Drawn0 w w')
  case atStart => exact ⟨(0),(by first | rfl | (simp;done) | (simp [*];done)),H',⟨Nat.le_refl _⟩,by repeat (first | exact Drawn0.refl _ | apply Drawn0.step)⟩
  case round =>
   clear H'
   try clear c1
   try clear c2
   try clear p2
   try clear c3
   try clear c3b0
   try clear c3b1
   try clear c3b2
   obtain ⟨x13_1,rfl,HA,HK1,⟨m1,rfl⟩⟩:=hrel
   cases gk with
   | zero => exact absurd HA.out (by simp [sconceref03_Same.l0])
   | succ k1 =>
    have H:=HA.out
    clear HA
    simp only [sconceref03_Same.l0] at H
    by_cases c4:x13_1 < (l0.length:Int)
    ·
     rw [if_pos c4] at H
     have c4b0:decide (x13_1 < (l0.length:Int)) = true:=decide_eq_true c4
     clear c4
     by_cases c5:0≤x13_1
     ·
      rw [if_pos c5] at H
      have c5b0:decide (0≤x13_1) = true:=decide_eq_true c5
      clear c5
      by_cases c6:x13_1 < (l0.length:Int)
      ·
       rw [if_pos c6] at H
       have c6b0:decide (x13_1 < (l0.length:Int)) = true:=decide_eq_true c6
       clear c6
       by_cases c7:x13_1 < (l1.length:Int)
       ·
        rw [if_pos c7] at H
        have c7b0:decide (x13_1 < (l1.length:Int)) = true:=decide_eq_true c7
        clear c7
        by_cases c8:(rd l0 x13_1) = (rd l1 x13_1)
        ·
         rw [if_pos c8] at H
         have c8b0:((rd l0 x13_1) == (rd l1 x13_1)) = true:=beq_iff_eq.mpr c8
         have c8b1:((rd l0 x13_1) != (rd l1 x13_1)) = false:=bne_eq_false_iff_eq.mpr c8
         clear c8
         have H':=Aside0.mk H
         clear H
         have p117:0≤(x13_1:Int):=of_decide_eq_true vD
         have q117:x13_1 < (l0.length:Int):=of_decide_eq_true vD
         obtain ⟨ad117,e117,hx117_0⟩:=Kd.at_int HR0.out x13_1 p117 q117
         cases e117
         replace p117:=eq_true p117
         replace q117:=eq_true q117
         have p118:0≤(x13_1:Int):=of_decide_eq_true vD
         have q118:x13_1 < (l1.length:Int):=of_decide_eq_true vD
         obtain ⟨ad118,e118,hx118_0⟩:=Kd.at_int HR1.out x13_1 p118 q118
         cases e118
         replace p118:=eq_true p118
         replace q118:=eq_true q118
         go_wp2
         repeat (go_quiet (fail);try go_wp2)
         go_roundg k1
         case measure => have:=HK1.out;omega
         case rel => exact ⟨(wrap64 (x13_1 + 1)),(by first | rfl | (simp;done) | (simp [*];done)),H',⟨by have:=HK1.out;omega⟩,by repeat (first | exact Drawn0.refl _ | apply Drawn0.step)⟩
        ·
         rw [if_neg c8] at H
         have c8b0:((rd l0 x13_1) == (rd l1 x13_1)) = false:=beq_eq_false_iff_ne.mpr c8
         have c8b1:((rd l0 x13_1) != (rd l1 x13_1)) = true:=bne_iff_ne.mpr c8
         obtain rfl:=Option.some.inj H
         have p117:0≤(x13_1:Int):=of_decide_eq_true vD
         have q117:x13_1 < (l0.length:Int):=of_decide_eq_true vD
         obtain ⟨ad117,e117,hx117_0⟩:=Kd.at_int HR0.out x13_1 p117 q117
         cases e117
         replace p117:=eq_true p117
         replace q117:=eq_true q117
         have p118:0≤(x13_1:Int):=of_decide_eq_true vD
         have q118:x13_1 < (l1.length:Int):=of_decide_eq_true vD
         obtain ⟨ad118,e118,hx118_0⟩:=Kd.at_int HR1.out x13_1 p118 q118
         cases e118
         replace p118:=eq_true p118
         replace q118:=eq_true q118
         go_wp2
         repeat (go_quiet (fail);try go_wp2)
         go_ret
         exact ⟨by first | rfl | (simp;done) | (simp [*];done),by repeat (first | exact Drawn0.refl _ | apply Drawn0.step)⟩
       ·
        rw [if_neg c7] at H
        exact absurd H (by simp)
      ·
       rw [if_neg c6] at H
       exact absurd H (by simp)
     ·
      rw [if_neg c5] at H
      exact absurd H (by simp)
    ·
     rw [if_neg c4] at H
     have c4b0:decide (x13_1 < (l0.length:Int)) = false:=decide_eq_false c4
     clear c4
     obtain rfl:=Option.some.inj H
     go_wp2
     repeat (go_quiet (fail);try go_wp2)
     go_ret
     exact ⟨by first | rfl | (simp;done) | (simp [*];done),by repeat (first | exact Drawn0.refl _ | apply Drawn0.step)⟩
 ·
  rw [if_neg c3] at H
  have c3b0:((l0.length:Int) == (l1.length:Int)) = false:=beq_eq_false_iff_ne.mpr c3
  have c3b1:((l0.length:Int) != (l1.length:Int)) = true:=bne_iff_ne.mpr c3
  have c3b2:(l0.length == l1.length) = false:=by first | simpa using c3 | (simp at c3 ⊢;omega)
  obtain rfl:=Option.some.inj H
  go_enter Try.func21,Try.ntmps21
  go_wp2
  repeat (go_quiet (fail);try go_wp2)
  go_ret
  exact ⟨by first | rfl | (simp;done) | (simp [*];done),by repeat (first | exact Drawn0.refl _ | apply Drawn0.step)⟩
def sconceref03_trim.l0:Nat→List Int→Option (List Int)
 | 0,_ => none
 | k + 1,x0 => if (x0.length:Int) > 0 then (if 0≤(wrap64 ((x0.length:Int) - 1)) then (if (wrap64 ((x0.length:Int) - 1)) < (x0.length:Int) then (if (rd x0 (wrap64 ((x0.length:Int) - 1))) = 0 then (if (wrap64 ((x0.length:Int) - 1))≤(x0.length:Int) then (sconceref03_trim.l0 k (x0.take ((wrap64 ((x0.length:Int) - 1)):Int).toNat)) else (none)) else (some x0)) else (none)) else (none)) else (some x0)
def sconceref03_trim.f (k:Nat) (l0:List Int):Option (List Int):=sconceref03_trim.l0 k l0
theorem sconceref03_trim.mono_l:∀ k,(∀ y0,LeO (sconceref03_trim.l0 k y0) (sconceref03_trim.l0 (k + 1) y0))
 | 0 => fun _ r h => by simp [sconceref03_trim.l0] at h
 | k + 1 => by
  have ih0:=sconceref03_trim.mono_l k
  ·
   intro y0
   unfold sconceref03_trim.l0
   repeat' first
   | (with_reducible exact ih0 _)
   | (with_reducible exact LeO.refl _)
   | (with_reducible exact LeO.none _)
   | (with_reducible refine LeO.ite ?_ ?_)
   | (with_reducible refine LeO.bind ?_ (fun _ => ?_))
   | exact ih0 _
   | exact LeO.none _
   | refine LeO.ite ?_ ?_
   | refine LeO.bind ?_ (fun _ => ?_)
theorem sconceref03_trim.mono:∀ a0 k,LeO (sconceref03_trim.f k a0) (sconceref03_trim.f (k + 1) a0):=by
 intro a0 k
 have ih0:=sconceref03_trim.mono_l k
 unfold sconceref03_trim.f
 repeat' first
   | (with_reducible exact ih0 _)
   | (with_reducible exact LeO.refl _)
   | (with_reducible exact LeO.none _)
   | (with_reducible refine LeO.ite ?_ ?_)
   | (with_reducible refine LeO.bind ?_ (fun _ => ?_))
   | exact ih0 _
   | exact LeO.none _
   | refine LeO.ite ?_ ?_
   | refine LeO.bind ?_ (fun _ => ?_)
theorem sconceref03_trim.calls (k:Nat) (P0_:Nat→Prop) (A0:Option Addr) (c0:Nat) (l0:List Int) (r:List Int) (w:World) (hs0:Kd.V (Kd.int .u32) 83 w w.heap.size (fun k_ => P0_ k_) (.slice A0 l0.length c0) l0) (h:sconceref03_trim.f k l0 = some r) :
  Calls Try.prog 85 #[.slice A0 l0.length c0] w fun e w' => ∃ v0_:Value,e = .returned (v0_)∧Kd.V (Kd.int .u32) 83 w' w.heap.size (fun k_ => (P0_ k_∨w.heap.size≤k_)) v0_ r∧Below w.heap.size w w':=by
 have HO0:=Aside0.mk (show Kd.V (Kd.int .u32) 83 w w.heap.size (fun k_ => (P0_ k_∨w.heap.size≤k_)) (.slice A0 l0.length c0) l0 from Kd.V_mono hs0 (fun k_ hk => .inl hk))
 have HB:=Aside0.mk (Below.refl w.heap.size w)
 have H:(sconceref03_trim.l0 k l0) = some r:=h
 clear h
 have H':=Aside0.mk H
 clear H
 go_enter Try.func85,Try.ntmps85
 go_wp2
 go_loopg [0] k (fun kq v0 w' => ∃ (x0_1:List Int),Aside0 (sconceref03_trim.l0 kq x0_1 = some r)∧Aside0 (kq≤k)∧Aside0 (Kd.V (Kd.int .u32) 83 w' w.heap.size (fun k_ => (P0_ k_∨w.heap.size≤k_)) v0 x0_1)∧Aside0 (Below w.heap.size w w'))
 case atStart => exact ⟨(l0),H',⟨Nat.le_refl _⟩,⟨by (with_reducible repeat (first | apply Kd.V_alloc | apply Kd.V_drewN | apply Kd.V_drew));exact HO0.out⟩,⟨by repeat (first | (with_reducible first | exact HB.out | apply below_alloc | apply pw_below_drewN | apply below_drew1) | exact HB.out)⟩⟩
 case round =>
  clear H'
  obtain ⟨x0_1,HA,HK1,HO_0,HB⟩:=hrel
  cases gk with
  | zero => exact absurd HA.out (by simp [sconceref03_trim.l0])
  | succ k1 =>
   have H:=HA.out
   clear HA
   simp only [sconceref03_trim.l0] at H
   by_cases c2:(x0_1.length:Int) > 0
   ·
    rw [if_pos c2] at H
    have c2b0:decide (0 < (x0_1.length:Int)) = true:=decide_eq_true c2
    have c2b1:decide (0 < x0_1.length) = true:=decide_eq_true (by omega)
    clear c2
    obtain ⟨ji3,hji3⟩:∃ j_:Int,(wrap64 ((x0_1.length:Int) - 1)) = j_:=⟨_,rfl⟩
    replace H:(if 0≤(ji3) then (if (ji3) < (x0_1.length:Int) then (if (rd x0_1 (ji3)) = 0 then (if (ji3)≤(x0_1.length:Int) then (sconceref03_trim.l0 k1 (x0_1.take ((ji3):Int).toNat)) else (none)) else (some x0_1)) else (none)) else (none)) = some r:=by first | (rw [hji3] at H;exact H) | (simp only [hji3] at H ⊢;exact H)
    have hji3w:(IntKind.i64.wrap ((x0_1.length:Int) - 1)) = ji3:=(i64_w _).trans hji3
    by_cases c4:0≤(ji3)
    ·
     rw [if_pos c4] at H
     have c4b0:decide (0≤(ji3)) = true:=decide_eq_true c4
     clear c4
     by_cases c5:(ji3) < (x0_1.length:Int)
     ·
      rw [if_pos c5] at H
      have c5b0:decide ((ji3) < (x0_1.length:Int)) = true:=decide_eq_true c5
      clear c5
      by_cases c6:(rd x0_1 (ji3)) = 0
      ·
       rw [if_pos c6] at H
       have c6b0:((rd x0_1 (ji3)) == 0) = true:=beq_iff_eq.mpr c6
       have c6b1:((rd x0_1 (ji3)) != 0) = false:=bne_eq_false_iff_eq.mpr c6
       clear c6
       have c7b0:=eq_true (of_decide_eq_true vD:0≤(ji3))
       by_cases c8:(ji3)≤(x0_1.length:Int)
       ·
        rw [if_pos c8] at H
        have c8b0:=eq_true c8
        have c8b1:decide ((ji3)≤(x0_1.length:Int)) = true:=decide_eq_true c8
        clear c8
        obtain ⟨y120,hy120⟩:∃ y_:List Int,y_ = (x0_1.take ((ji3):Int).toNat):=⟨_,rfl⟩
        replace H:(sconceref03_trim.l0 k1 y120) = some r:=by first | (rw [hy120];with_reducible exact H) | (have H2_:=(Option.bind_some _ _).symm.trans H;rw [hy120];with_reducible exact H2_) | (have H2_:=(Option.bind_some _ _).symm.trans H;with_reducible exact H2_) | with_reducible exact H | (rw [hy120];exact H) | exact H
        have Ny120:=Aside0.mk hy120
        clear hy120
        have H':=Aside0.mk H
        clear H
        obtain ⟨Ao9,co9,eo9⟩:=Kd.V_slice HO_0.out
        subst eo9
        have p119:0≤((ji3):Int):=of_decide_eq_true vD
        have q119:(ji3) < (x0_1.length:Int):=of_decide_eq_true vD
        obtain ⟨ad119,e119,hx119_0⟩:=Kd.at_int (Kd.V_reads' HO_0.out).2.2 (ji3) p119 q119
        cases e119
        replace p119:=eq_true p119
        replace q119:=eq_true q119
        have q10:((ji3):Int)≤((x0_1.length:Int):Int):=of_decide_eq_true vD
        obtain ⟨i010,hi010,_,hsz10,_⟩:=info_parts info83
        have hroom10:x0_1.length≤co9:=(Kd.V_reads' HO_0.out).2.1
        have hC10:Kd.F (Kd.int .u32) _ _ (some ad119) x0_1.length x0_1:=(Kd.V_at (base:=w.heap.size) HO_0.out).2.2
        have hcut10:=cut_to (P:=Try.prog) 48 83 .i64 Try.underlying48 hi010 (some ad119) x0_1.length co9 (ji3) (of_decide_eq_true vD) q10 hroom10
        have hr10:=Kd.F_take (m:=((ji3):Int).toNat) hC10 (by omega)
        have hy10:y120.length = ((ji3):Int).toNat:=(by rw [Ny120.out,List.length_take];omega)
        rw [← Ny120.out] at hr10
        rw [← hy10] at hcut10
        have HO124:=Aside0.mk (show Kd.V (Kd.int .u32) 83 _ w.heap.size _ (.slice (some ad119) y120.length co9) y120 from Kd.V_mk (by omega) hr10)
        have HC124:=Aside0.mk (show y120.length≤co9 from by omega)
        clear hr10 hC10 hroom10 hi010 hsz10
        have KY10:=Aside0.mk hy10
        clear hy10
        replace q10:=eq_true q10
        go_wp2
        go_roundg k1
        case measure => have:=HK1.out;omega
        case rel => exact ⟨(y120),H',⟨by have:=HK1.out;omega⟩,⟨by (with_reducible repeat (first | apply Kd.V_alloc | apply Kd.V_drewN | apply Kd.V_drew));exact HO124.out⟩,⟨by repeat (first | (with_reducible first | exact HB.out | apply below_alloc | apply pw_below_drewN | apply below_drew1) | exact HB.out)⟩⟩
       ·
        rw [if_neg c8] at H
        exact absurd H (by simp)
      ·
       rw [if_neg c6] at H
       have c6b0:((rd x0_1 (ji3)) == 0) = false:=beq_eq_false_iff_ne.mpr c6
       have c6b1:((rd x0_1 (ji3)) != 0) = true:=bne_iff_ne.mpr c6
       obtain rfl:=Option.some.inj H
       obtain ⟨Ao11,co11,eo11⟩:=Kd.V_slice HO_0.out
       subst eo11
       have p119:0≤((ji3):Int):=of_decide_eq_true vD
       have q119:(ji3) < (x0_1.length:Int):=of_decide_eq_true vD
       obtain ⟨ad119,e119,hx119_0⟩:=Kd.at_int (Kd.V_reads' HO_0.out).2.2 (ji3) p119 q119
       cases e119
       replace p119:=eq_true p119
       replace q119:=eq_true q119
       go_wp2
       go_ret
       exact ⟨_,by first | rfl | (simp [errW_none,errW_some] <;> rfl) | (simp only [← hji3];first | rfl | (simp [errW_none,errW_some] <;> rfl)) | (simp [*,errW_none,errW_some] <;> rfl),by (with_reducible repeat (first | apply Kd.V_alloc | apply Kd.V_drewN | apply Kd.V_drew));exact HO_0.out,by repeat (first | (with_reducible first | exact HB.out | apply below_alloc | apply pw_below_drewN | apply below_drew1) | exact HB.out)⟩
     ·
      rw [if_neg c5] at H
      exact absurd H (by simp)
    ·
     rw [if_neg c4] at H
     exact absurd H (by simp)
   ·
    rw [if_neg c2] at H
    have c2b0:decide (0 < (x0_1.length:Int)) = false:=decide_eq_false c2
    have c2b1:decide (0 < x0_1.length) = false:=decide_eq_false (by omega)
    clear c2
    obtain rfl:=Option.some.inj H
    obtain ⟨Ao12,co12,eo12⟩:=Kd.V_slice HO_0.out
    subst eo12
    go_wp2
    go_ret
    exact ⟨_,by first | rfl | (simp [errW_none,errW_some] <;> rfl) | (simp [*,errW_none,errW_some] <;> rfl),by (with_reducible repeat (first | apply Kd.V_alloc | apply Kd.V_drewN | apply Kd.V_drew));exact HO_0.out,by repeat (first | (with_reducible first | exact HB.out | apply below_alloc | apply pw_below_drewN | apply below_drew1) | exact HB.out)⟩
end Go.Proofs.Ytonpekldcnankaa.X
