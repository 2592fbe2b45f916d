/- Texts of the walk and of the plain laws, laid together by a program: X1, X26. -/
import Derived.Deep.RegionLaw
import Derived.Deep.RegionWith
import Derived.Test.YtonpekldcnankaaZC3
import Derived.Test.YtonpekldcnankaaZC5
import Derived.Test.YtonpekldcnankaaZC8
set_option maxHeartbeats 8000000
set_option maxRecDepth 100000
section
namespace Go.Proofs.Ytonpekldcnankaa.X
open Go.RowKit Go.Proofs.YtonpekldcnankaaW.PrintWords Go.Proofs.YtonpekldcnankaaW.PrintLast Go.Proofs.YtonpekldcnankaaW.PrintMore
attribute [local go_sem] max2_int min2_int max_two min_two max_three min_three max_four min_four
set_option linter.unusedVariables false
set_option linter.unusedSimpArgs false
def word_Mask.f (a0:Int):Option (Int):=some (IntKind.u64.wrap (-(Go.bits .and .u64 a0 1)))
theorem word_Mask.calls (a0:Int) (r:Int) (w:World) (h:word_Mask.f a0 = some r) :
  Calls Try.prog 141 #[.int .u64 a0] w fun e w' => e = .returned (.int .u64 r)∧Drawn0 w w':=by
 have H:(some (IntKind.u64.wrap (-(Go.bits .and .u64 a0 1)))) = some r:=h
 clear h
 obtain rfl:=Option.some.inj H
 go_enter Try.func141,Try.ntmps141
 go_wp2
 go_ret
 exact ⟨by first | rfl | (simp;done) | (simp [*];done),by repeat (first | exact Drawn0.refl _ | apply Drawn0.step)⟩
theorem trace_put_nil (k a b:Int) (w:World) :
  Calls Try.prog 172 #[.pointer none,.agg #[.int .i64 k,.int .i64 a,.int .i64 b]] w fun e w' => e = .returned (.tuple #[])∧Below w.heap.size w w':=by
 go_enter Try.func172,Try.ntmps172
 go_wp2
 refine bodyPost_ret (results_none rfl _ _ _) rfl ⟨rfl,?_⟩
 exact below_alloc (Below.refl _ _) _
def trace_Trace_Span.f (a1:Int):Option Unit:=some ()
theorem trace_Trace_Span.calls (a1:Int) (w:World) (h:trace_Trace_Span.f a1 = some ()) :
  Calls Try.prog 145 #[.pointer none,.int .i64 a1] w fun e w' => e = .returned (.tuple #[])∧Below w.heap.size w w':=by
 clear h
 go_enter Try.func145,Try.ntmps145
 go_wp2_with (go_at_call 172;refine (trace_put_nil _ _ _ _).mono ?_;rintro e w1 ⟨rfl,hb⟩)
 go_end0
 exact ⟨rfl,hb⟩
def limbs_at.f (l0:List Int) (a1:Int):Option (Int):=if a1 < (l0.length:Int) then (if 0≤a1 then (some (rd l0 a1)) else (none)) else (some 0)
theorem limbs_at.calls (A0:Option Addr) (c0:Nat) (l0:List Int) (a1:Int) (r:Int) (w:World) (hr0:Kd.C (Kd.int .u64) w A0 l0.length l0) (hc0:l0.length≤c0) (h:limbs_at.f l0 a1 = some r) :
  Calls Try.prog 165 #[.slice A0 l0.length c0,.int .i64 a1] w fun e w' => e = .returned (.int .u64 r)∧Drawn0 w w':=by
 have HR0:=Aside0.mk hr0
 have HC0:=Aside0.mk hc0
 clear hr0 hc0
 have H:(if a1 < (l0.length:Int) then (if 0≤a1 then (some (rd l0 a1)) else (none)) else (some 0)) = some r:=h
 clear h
 by_cases c3:a1 < (l0.length:Int)
 ·
  rw [if_pos c3] at H
  have c3b0:decide (a1 < (l0.length:Int)) = true:=decide_eq_true c3
  clear c3
  by_cases c4:0≤a1
  ·
   rw [if_pos c4] at H
   have c4b0:decide (0≤a1) = true:=decide_eq_true c4
   clear c4
   obtain rfl:=Option.some.inj H
   have p102:0≤(a1:Int):=of_decide_eq_true vD
   have q102:a1 < (l0.length:Int):=of_decide_eq_true vD
   obtain ⟨ad102,e102,hx102_0⟩:=Kd.at_int HR0.out a1 p102 q102
   cases e102
   replace p102:=eq_true p102
   replace q102:=eq_true q102
   go_enter Try.func165,Try.ntmps165
   go_wp2
   go_ret
   exact ⟨by first | rfl | (simp;done) | (simp [*];done),by repeat (first | exact Drawn0.refl _ | apply Drawn0.step)⟩
  ·
   rw [if_neg c4] at H
   exact absurd H (by simp)
 ·
  rw [if_neg c3] at H
  have c3b0:decide (a1 < (l0.length:Int)) = false:=decide_eq_false c3
  clear c3
  obtain rfl:=Option.some.inj H
  go_enter Try.func165,Try.ntmps165
  go_wp2
  go_ret
  exact ⟨by first | rfl | (simp;done) | (simp [*];done),by repeat (first | exact Drawn0.refl _ | apply Drawn0.step)⟩
theorem sp_limbs_at (l:List Int) (i:Nat):limbs_at.f l (i:Int) = some (Ma.at0 l i):=by
 unfold limbs_at.f
 by_cases h:i < l.length
 ·
  rw [if_pos (by omega)];first | (rw [if_pos (by omega)];simp [rd,Ma.at0]) | simp [rd,Ma.at0]
 ·
  rw [if_neg (by omega),Ma.at0_ge (by omega)]
theorem and_mask {y a:Int} (hy:0≤y∧y < 18446744073709551616) (m:Int) (hm:m = if a % 2 = 1 then 18446744073709551615 else 0):Go.bits .and .u64 y m = a % 2 * y:=by
 subst hm
 split
 ·
  rename_i h;rw [Ma.b_and_all hy.1 hy.2,h,Int.one_mul]
 ·
  rename_i h;rw [Ma.b_and_0 hy.1 hy.2,show a % 2 = 0 by omega,Int.zero_mul]
theorem C_nil (w:World):Kd.C (Kd.int .u64) w none ([]:List Int).length []:=Kd.C_of_reads (h1:=fun _ => rfl) (d:=(0:Int)) (ReadsOf.nil _ _ _)
theorem w_sub64 (x y b:Int) (hx:0≤x) (hy:0≤y) (hy':y < 18446744073709551616) (hb0:0≤b) (hb:b≤1) (w:World):(callFunc 183 #[.int .u64 x,.int .u64 y,.int .u64 b]).run Try.prog w =
  .ok (.value (.tuple #[.int .u64 ((x - y - b) % 18446744073709551616),.int .u64 (Ma.bor x (y + b))])) w:=by
 obtain ⟨x,rfl⟩:=Int.eq_ofNat_of_zero_le hx
 obtain ⟨y,rfl⟩:=Int.eq_ofNat_of_zero_le hy
 obtain ⟨b,rfl⟩:=Int.eq_ofNat_of_zero_le hb0
 have e1:(((x + 18446744073709551616 - y - b) % 18446744073709551616:Nat):Int) = ((x:Int) - y - b) % 18446744073709551616:=by omega
 have e2:((if x < y + b then 1 else 0:Nat):Int) = Ma.bor (x:Int) (y + b):=by unfold Ma.bor;split <;> split <;> omega
 rw [run_callFunc_extern Try.func183 (by kernel_rfl) (by kernel_rfl) (by kernel_rfl) (e:=sub64Entry) (by kernel_rfl),run_sub64 x y b (by omega),← e1,← e2]
 rfl
def word_Sub.f (a0 a1 a2:Int):Option (Int × Int) :=
 if (0≤a0∧0≤a1∧a1 < 18446744073709551616)∧(0≤a2∧a2 < 18446744073709551616) then some ((a0 - a1 - a2 % 2) % 18446744073709551616,Ma.bor a0 (a1 + a2 % 2)) else none
theorem word_Sub.calls (a0 a1 a2 r1 r2:Int) (w:World) (h:word_Sub.f a0 a1 a2 = some (r1,r2)) :
  Calls Try.prog 174 #[.int .u64 a0,.int .u64 a1,.int .u64 a2] w fun e w' => e = .returned (.tuple #[.int .u64 r1,.int .u64 r2])∧Drawn0 w w':=by
 unfold word_Sub.f at h
 split at h
 ·
  rename_i hc
  obtain ⟨⟨h0,h1,h1'⟩,h2,h3⟩:=hc
  simp only [Option.some.injEq,Prod.mk.injEq] at h
  obtain ⟨rfl,rfl⟩:=h
  have hb:=and_one_u64 a2 h2 (by omega)
  have hm0:0≤a2 % 2:=by omega
  have hm1:a2 % 2≤1:=by omega
  have HB:=Lib.hid hb
  clear hb
  go_enter Try.func174,Try.ntmps174
  go_wp2_with (first | (rw [HB.out];simp only [w_sub64 a0 a1 _ h0 h1 h1' hm0 hm1]) | simp only [w_sub64 a0 a1 _ h0 h1 h1' hm0 hm1])
  go_ret2
  exact ⟨rfl,Drawn0.refl _⟩
 ·
  exact absurd h (by simp)
theorem limbs_SubIf_1 (x y m k r1 r2:Int) (bm bk:Nat) (w:World) (hm:w.heap[bm]? = some (.cells #[.int .u64 m] 24 (0,0))) (hk:w.heap[bk]? = some (.cells #[.int .u64 k] 24 (0,0)))
  (h:word_Sub.f x (Go.bits .and .u64 y m) k = some (r1,r2)) :
  Calls Try.prog 173 #[.int .u64 x,.int .u64 y,.pointer (some ⟨bm,0,none⟩),.pointer (some ⟨bk,0,none⟩)] w fun e w' => e = .returned (.int .u64 r1)∧Upd w w' bk (.int .u64 r2) 24:=by
 have cm:=cell_of_one hm
 have ck:=cell_of_one hk
 have fk:=free_of_one hk
 have HK:=Aside0.mk hk
 clear hm hk
 have H:=Aside0.mk h
 clear h
 go_enter Try.func173,Try.ntmps173
 go_wp2_with (go_at_call 174;refine (word_Sub.calls _ _ _ r1 r2 _ H.out).mono ?_;rintro e w' ⟨rfl,⟨n,rfl⟩⟩)
 go_ret
 exact ⟨rfl,Upd.put HK.out n _⟩
theorem limbs_each_SubIf (n:Nat) (A1 A2:Option Addr) (c1 c2:Nat) (l1 l2:List Int) (m:Int) (bm:Nat) (bk:Nat) (D cy:Nat→Int) (w0 w:World)
  (hr1:Kd.C (Kd.int .u64) w0 A1 l1.length l1) (hc1:l1.length≤c1) (hr2:Kd.C (Kd.int .u64) w0 A2 l2.length l2) (hc2:l2.length≤c2)
  (hn:(if l1.length < l2.length then (l2.length:Int) else (l1.length:Int)) = (n:Int)) (hn2:n≤35184372088832)
  (hB:Below w0.heap.size w0 w) (hbm:w0.heap.size≤bm) (hmk:bm≠bk) (hm:w.heap[bm]? = some (.cells #[.int .u64 m] 24 (0,0))) (hbk:w0.heap.size≤bk) (hk:w.heap[bk]? = some (.cells #[.int .u64 (cy 0)] 24 (0,0)))
  (hst:∀ i,i < n→∀ W:World,W.heap[bm]? = some (.cells #[.int .u64 m] 24 (0,0))→W.heap[bk]? = some (.cells #[.int .u64 (cy i)] 24 (0,0)) →
   Calls Try.prog 173 #[.int .u64 (Ma.at0 l1 i),.int .u64 (Ma.at0 l2 i),.pointer (some ⟨bm,0,none⟩),.pointer (some ⟨bk,0,none⟩)] W fun e W' => e = .returned (.int .u64 (D i))∧Upd W W' bk (.int .u64 (cy (i + 1))) 24) :
  Calls Try.prog 142 #[.pointer none,.slice A1 l1.length c1,.slice A2 l2.length c2,.func (.func 173) #[] #[.pointer (some ⟨bm,0,none⟩),.pointer (some ⟨bk,0,none⟩)]] w fun e w' =>
   ∃ v,e = .returned v∧Kd.R (Kd.int .u64) 24 w' w.heap.size (fun _ => True) v (Ma.mk D n)∧Below w0.heap.size w0 w'∧w'.heap[bk]? = some (.cells #[.int .u64 (cy n)] 24 (0,0)):=by
 have HR1:=Aside0.mk hr1
 have HR2:=Aside0.mk hr2
 have HM:=Aside0.mk hm
 have lbm:=blk_lt hm
 clear hm
 have HK:=Aside0.mk hk
 have HB:=Aside0.mk hB
 have HST:=Aside0.mk hst
 have lbk:=blk_lt hk
 clear hr1 hr2 hk hB hst
 go_enter Try.func142,Try.ntmps142
 go_wp2_with (first
  | (go_at_call 145;refine (trace_Trace_Span.calls _ _ rfl).mono ?_;rintro e w1 ⟨rfl,hb1⟩)
  | ((with_reducible refine gate_dst (N:=21) rfl ?_);refine Kd.R_make (Kd.int .u64) _ 24 rfl (N:=21) rfl 23 _ _ rfl (n:Int) rfl rfl Try.underlying23 (.int .u64 0) 8 info24 rfl (by decide) (by omega) 0 (ok:=fun k_ => w.heap.size≤k_) (okp:=fun k_ => w.heap.size≤k_) rfl (fun _ hk => hk) hb1.size (by omega) (by simp only [Int.toNat_natCast];omega) (Below.refl _ _) (Nat.le_refl _) ?_;intro v2 w2 ho2 hb2 hg2 hnew2;clear hg2 hnew2;simp only [Int.toNat_natCast] at ho2;have HO:=Aside0.mk (Kd.R_lower ho2 hb1.size);have HB2:=Aside0.mk (below_then hb1 hb1.size hb2);clear ho2 hb2 hb1;obtain ⟨Ao,co,eo⟩:=Kd.R_slice HO.out;rw [List.length_replicate] at eo;subst eo))
 have HB3:=Aside0.mk (below_then HB.out HB.out.size HB2.out)
 have HM3:=Aside0.mk ((HB2.out.block bm lbm).trans HM.out)
 have HK3:=Aside0.mk ((HB2.out.block bk lbk).trans HK.out)
 clear HB HM HK
 obtain ⟨wB,hwB⟩:∃ q,q = w.heap.size:=⟨_,rfl⟩
 rw [← hwB] at HO lbm lbk
 have HWB:=Aside0.mk hwB
 clear hwB HB2
 go_loopg [23] (n + 1) (fun q v23 wr => ∃ i:Nat,i + q = n + 1∧i≤n∧v23 = .int .i64 i∧Aside0 (Kd.R (Kd.int .u64) 24 wr wB (fun k_ => wB≤k_) (.slice Ao n co) (Ma.mk D i ++ List.replicate (n - i) 0))∧Aside0 (Below w0.heap.size w0 wr)∧Aside0 (wr.heap[bm]? = some (.cells #[.int .u64 m] 24 (0,0)))∧Aside0 (wr.heap[bk]? = some (.cells #[.int .u64 (cy i)] 24 (0,0))))
 case atStart => exact ⟨0,by omega,by omega,rfl,⟨by simpa [Ma.mk] using HO.out⟩,HB3,HM3,HK3⟩
 case round =>
  clear HB3 HM3 HK3 HO
  obtain ⟨i,hiq,hin,rfl,HO,HB,HM,HK⟩:=hrel
  have hl:=Ma.mk_full_length D hin
  cases gk with
  | zero => omega
  | succ k1 =>
   by_cases hlt:i < n
   ·
    have d1:decide ((i:Int) < (n:Int)) = true:=decide_eq_true (by omega)
    have d2:decide (i < n) = true:=decide_eq_true hlt
    have HE:=Aside0.mk hiq
    clear hiq
    go_wp2_with (first
     | ((with_reducible refine gate_callee (f:=165) rfl ?_);refine goesL_ (some 31) rfl rfl Try.func165 (by kernel_rfl) rfl #[.slice A1 l1.length c1,.int .i64 (i:Int)] rfl (by (try simp only [List.map_toArray,List.map_cons,List.map_nil]);first | done | rfl) ?_;(with_reducible refine (limbs_at.calls _ _ l1 (i:Int) (Ma.at0 l1 i) _ ?s1 hc1 (sp_limbs_at l1 i)).mono ?_);(case s1 => exact Kd.C_below HR1.out (pw_below_drewN HB.out 0));rintro e w' ⟨rfl,⟨nd,rfl⟩⟩;refine ⟨_,rfl,?_⟩)
     | ((with_reducible refine gate_callee (f:=165) rfl ?_);refine goesL_ (some 34) rfl rfl Try.func165 (by kernel_rfl) rfl #[.slice A2 l2.length c2,.int .i64 (i:Int)] rfl (by (try simp only [List.map_toArray,List.map_cons,List.map_nil]);first | done | rfl) ?_;(with_reducible refine (limbs_at.calls _ _ l2 (i:Int) (Ma.at0 l2 i) _ ?s2 hc2 (sp_limbs_at l2 i)).mono ?_);(case s2 => exact Kd.C_below HR2.out (pw_below_drewN HB.out _));rintro e w' ⟨rfl,⟨nd2,rfl⟩⟩;refine ⟨_,rfl,?_⟩))
    refine (HST.out i hlt _ (by exact HM.out) (by exact HK.out)).mono ?_
    rintro e w3 ⟨rfl,hp⟩
    have HO3:=Aside0.mk (hp.row (Kd.R_drewN HO.out _) (fun k hk => by omega))
    have HM3:=Aside0.mk (hp.far (o:=.cells #[.int .u64 m] 24 (0,0)) HM.out hmk)
    have HK3:=Aside0.mk hp.at_
    have HB3:=Aside0.mk (hp.below (pw_below_drewN HB.out _) hbk)
    clear hp HO HM HK HB
    obtain ⟨go,co2,eo,gb,gl,cl,HG⟩:=Kd.R_form HO3.out (by rw [hl];omega)
    rw [hl] at eo
    cases eo
    have p1:(0:Int)≤(i:Int):=by omega
    have q1:(i:Int) < (n:Int):=by omega
    obtain ⟨hx,hf⟩:=Kd.R_celln 0 HO3.out (i:Int) p1 q1
    have hP:=(Kd.R_putg HO3.out (i:Int) (D i)).1
    simp only [Int.toNat_natCast] at hx hf hP
    rw [Ma.mk_set D hlt] at hP
    have HP:=Aside0.mk hP
    clear HG cl hP
    go_wp2_with ((with_reducible refine gate_store (t:=24) (p:=36) rfl ?_);refine store_event (t:=24) (p:=36) (v:=?vo) (w1:=(w3.setCell ⟨go,i,none⟩ (.int .u64 (D i)))) ?hg ?ho ?hn ?hr ?_;(case ho => rfl);(case hg => rfl);(case hn => rfl);(case hr => first | (go_simp;done) | (go_simp;rfl));intro w4 hw;have HO4:=Aside0.mk (show Kd.R (Kd.int .u64) 24 w4 wB (fun k_ => wB≤k_) (.slice (some ⟨go,0,none⟩) n co) (Ma.mk D (i + 1) ++ List.replicate (n - (i + 1)) 0) from by rw [hw];exact HP.out);have HB4:=Aside0.mk (show Below w0.heap.size w0 w4 from by rw [hw];exact below_set HB3.out (by omega));have HM4:=Aside0.mk (show w4.heap[bm]? = some (.cells #[.int .u64 m] 24 (0,0)) from by rw [hw];exact blk_far HM3.out (by show bm≠go;omega) _);have HK4:=Aside0.mk (show w4.heap[bk]? = some (.cells #[.int .u64 (cy (i + 1))] 24 (0,0)) from by rw [hw];exact blk_far HK3.out (by show bk≠go;omega) _);clear hw HP HO3 HB3 HM3 HK3 hx hf)
    go_roundg k1
    case measure => omega
    case rel => exact ⟨i + 1,by have:=HE.out;omega,by omega,by go_num,HO4,HB4,HM4,HK4⟩
   ·
    have hin':i = n:=by omega
    subst hin'
    have d1:decide ((i:Int) < (i:Int)) = false:=decide_eq_false (by omega)
    have d2:decide (i < i) = false:=decide_eq_false hlt
    go_wp2
    go_ret
    have h:=HO.out
    rw [HWB.out] at h
    exact ⟨_,rfl,by simpa using Kd.R_mono h (fun _ _ => trivial),HB.out,HK.out⟩
def limbs_SubIf.f (a1:Int) (l2 l3:List Int):Option (List Int × Int) :=
 if (Ma.wd a1 = true∧max l2.length l3.length≤35184372088832)∧l2.all Ma.wd = true∧l3.all Ma.wd = true then some (Ma.mk (Ma.dgS (a1 % 2) l2 l3) (max l2.length l3.length),Ma.cyS (a1 % 2) l2 l3 (max l2.length l3.length)) else none
theorem mask_val_SubIf {a:Int} (ha:Ma.wd a = true):word_Mask.f a = some (if a % 2 = 1 then 18446744073709551615 else 0):=by
 rw [Ma.wd_iff] at ha
 unfold word_Mask.f;rw [Ma.b_and1 ha.1 ha.2,Ma.wU]
 congr 1;split <;> omega
theorem SubIf_step {a1 m:Int} {l2 l3:List Int} (hm:m = if a1 % 2 = 1 then 18446744073709551615 else 0) (h2:l2.all Ma.wd = true) (h3:l3.all Ma.wd = true) (i:Nat) :
  word_Sub.f (Ma.at0 l2 i) (Go.bits .and .u64 (Ma.at0 l3 i) m) (Ma.cyS (a1 % 2) l2 l3 i) = some (Ma.dgS (a1 % 2) l2 l3 i,Ma.cyS (a1 % 2) l2 l3 (i + 1)):=by
 have x2:=Ma.at0_dg (by decide) (Ma.wds_dg.1 h2) i
 have x3:=Ma.at0_dg (by decide) (Ma.wds_dg.1 h3) i
 have xc:=Ma.cyS_bit (m:=a1 % 2) (a:=l2) (b:=l3) i
 have x4:0≤a1 % 2 * Ma.at0 l3 i:=Int.mul_nonneg (by omega) x3.1
 have x5:a1 % 2 * Ma.at0 l3 i < 18446744073709551616:=by
  have hb:a1 % 2 = 0∨a1 % 2 = 1:=by omega
  rcases hb with e | e <;> rw [e] <;> omega
 rw [and_mask x3 m hm]
 unfold word_Sub.f
 rw [if_pos ⟨⟨x2.1,x4,x5⟩,xc.1,by omega⟩,show Ma.cyS (a1 % 2) l2 l3 i % 2 = Ma.cyS (a1 % 2) l2 l3 i by omega]
 rfl
theorem limbs_SubIf.calls (a1:Int) (A2:Option Addr) (c2:Nat) (l2:List Int) (A3:Option Addr) (c3:Nat) (l3:List Int) (r1:List Int) (r2:Int) (w:World) (hr2:Kd.C (Kd.int .u64) w A2 l2.length l2) (hc2:l2.length≤c2) (hr3:Kd.C (Kd.int .u64) w A3 l3.length l3) (hc3:l3.length≤c3) (h:limbs_SubIf.f a1 l2 l3 = some (r1,r2)) :
  Calls Try.prog 146 #[.pointer none,.int .u64 a1,.slice A2 l2.length c2,.slice A3 l3.length c3] w fun e w' => ∃ v0_:Value,e = .returned (.tuple #[v0_,.int .u64 r2])∧Kd.R (Kd.int .u64) 24 w' w.heap.size (fun _ => True) v0_ r1∧Below w.heap.size w w':=by
 unfold limbs_SubIf.f at h
 split at h
 ·
  rename_i hc
  obtain ⟨⟨h1,hn2⟩,h2,h3⟩:=hc
  simp only [Option.some.injEq,Prod.mk.injEq] at h
  obtain ⟨rfl,rfl⟩:=h
  have HM:=Aside0.mk (mask_val_SubIf h1)
  obtain ⟨m,hm⟩:∃ m:Int,m = if a1 % 2 = 1 then 18446744073709551615 else 0:=⟨_,rfl⟩
  rw [← hm] at HM
  have HST:=Aside0.mk (SubIf_step hm h2 h3)
  clear hm h1 h2 h3
  have HR2:=Aside0.mk hr2
  have HR3:=Aside0.mk hr3
  clear hr2 hr3
  obtain ⟨n,hn⟩:∃ n,n = max l2.length l3.length:=⟨_,rfl⟩
  rw [← hn] at hn2 ⊢
  have HN:=Aside0.mk hn
  clear hn
  have hx1:∀ nd,((w.drewN nd).alloc (.cells #[.int .u64 0] 24)).cell? ⟨w.heap.size,0,none⟩ = some (.int .u64 0):=fun nd => (blk_cell (heap_alloc_new (w.drewN nd) _) 0).trans rfl
  have hx2:∀ nd,((w.drewN nd).alloc (.cells #[.int .u64 0] 24)).frozen? ⟨w.heap.size,0,none⟩ = false:=fun nd => blk_frozen (heap_alloc_new (w.drewN nd) _) 0
  go_enter Try.func146,Try.ntmps146
  go_wp2_with (go_at_call 141;refine (word_Mask.calls a1 m _ HM.out).mono ?_;rintro e w' ⟨rfl,⟨nd,rfl⟩⟩)
  obtain ⟨hb1,hb2,hb3⟩:=two_boxes w nd (.int .u64 0) (.int .u64 0) (.int .u64 m) 24
  refine (limbs_each_SubIf n A2 A3 c2 c3 l2 l3 m w.heap.size (w.heap.size + 1) (Ma.dgS (a1 % 2) l2 l3) (Ma.cyS (a1 % 2) l2 l3) w _ HR2.out hc2 HR3.out hc3 (by have:=HN.out;split <;> omega) hn2 hb3 (Nat.le_refl _) (by omega) hb1 (by omega) hb2 (fun i _ W k1 k2 => limbs_SubIf_1 _ _ m _ _ _ _ _ W k1 k2 (HST.out i))).mono ?_
  rintro e w3 ⟨v,rfl,hR,hB,hK⟩
  have hz:=below_size hb3
  have HR:=Aside0.mk (Kd.R_lower hR hz)
  have HB:=Aside0.mk hB
  have ck:=cell_of_one hK
  clear hb1 hb2 hb3 hR hB hz hK hx1 hx2
  go_wp2
  go_quiet (fail)
  go_wp2
  go_ret2
  exact ⟨v,rfl,Kd.R_drewN HR.out _,pw_below_drewN HB.out _⟩
 ·
  exact absurd h (by simp)
def limbs_Sub.f  (l1:List Int) (l2:List Int):Option (List Int × Int):=(limbs_SubIf.f 1 l1 l2).bind fun bt104 => (some (bt104.1,bt104.2))
theorem limbs_Sub.calls  (A1:Option Addr) (c1:Nat) (l1:List Int) (A2:Option Addr) (c2:Nat) (l2:List Int) (r1:List Int) (r2:Int) (w:World) (hr1:Kd.C (Kd.int .u64) w A1 l1.length l1) (hc1:l1.length≤c1) (hr2:Kd.C (Kd.int .u64) w A2 l2.length l2) (hc2:l2.length≤c2) (h:limbs_Sub.f l1 l2 = some (r1,r2)) :
  Calls Try.prog 107 #[.pointer none,.slice A1 l1.length c1,.slice A2 l2.length c2] w fun e w' => ∃ v0_:Value,e = .returned (.tuple #[v0_,.int .u64 r2])∧Kd.R (Kd.int .u64) 24 w' w.heap.size (fun _ => True) v0_ r1∧Below w.heap.size w w':=by
 have HR1:=Aside0.mk hr1
 have HC1:=Aside0.mk hc1
 clear hr1 hc1
 have HR2:=Aside0.mk hr2
 have HC2:=Aside0.mk hc2
 clear hr2 hc2
 have HB:=Aside0.mk (Below.refl w.heap.size w)
 have H:((limbs_SubIf.f 1 l1 l2).bind fun bt104 => (some (bt104.1,bt104.2))) = some (r1,r2):=h
 clear h
 replace H:=Option.bind_eq_some_iff.mp H
 obtain ⟨⟨t104,t105⟩,A40,H⟩:=H
 replace H:(some (t104,t105)) = some (r1,r2):=H
 have A4:=Aside0.mk A40
 clear A40
 simp only [Option.some.injEq,Prod.mk.injEq] at H
 obtain ⟨rfl,rfl⟩:=H
 go_enter Try.func107,Try.ntmps107
 go_wp2_with (first | ((with_reducible refine gate_callee (f:=146) rfl ?_);refine goesL_ (some 11) rfl rfl Try.func146 (by kernel_rfl) rfl #[.pointer none,.int .u64 1,.slice A1 l1.length c1,.slice A2 l2.length c2] rfl vA ?_;(with_reducible refine (limbs_SubIf.calls  1 _ _ l1 _ _ l2 t104 t105 _ ?side1 ?side2 ?side3 ?side4 A4.out).mono ?_);(case side1 => repeat (first | exact HR1.out | (with_reducible refine Kd.C_alloc ?_ _) | (with_reducible refine Kd.C_drewN ?_ _) | (with_reducible refine Kd.C_drew ?_)));(case side2 => exact HC1.out);(case side3 => repeat (first | exact HR2.out | (with_reducible refine Kd.C_alloc ?_ _) | (with_reducible refine Kd.C_drewN ?_ _) | (with_reducible refine Kd.C_drew ?_)));(case side4 => exact HC2.out);rintro e w5 ⟨v106,rfl,ho0,hb⟩;refine ⟨_,rfl,?_⟩;have n0_:=Aside0.mk (Kd.R_lower ho0 (below_size (vB HB.out)));have n1_:=Aside0.mk (below_step (vB HB.out) hb);clear HB;have HO107:=n0_;have HB:=n1_;clear n0_ n1_;(try clear hb);(try clear hb2);(try clear hk);(try clear hi);(try clear ho0)))
 go_ret2
 exact ⟨_,by first | rfl | (simp [errW_none,errW_some] <;> rfl) | (simp [*,errW_none,errW_some] <;> rfl),by (with_reducible repeat (first | apply Kd.R_alloc | apply Kd.R_drewN | apply Kd.R_drew));exact HO107.out,by repeat (first | (with_reducible first | exact HB.out | apply below_alloc | apply pw_below_drewN | apply below_drew1) | exact HB.out)⟩
def limbs_Less.f  (l1:List Int) (l2:List Int):Option (Int):=(limbs_Sub.f l1 l2).bind fun bt108 => (some bt108.2)
theorem limbs_Less.calls  (A1:Option Addr) (c1:Nat) (l1:List Int) (A2:Option Addr) (c2:Nat) (l2:List Int) (r:Int) (w:World) (hr1:Kd.C (Kd.int .u64) w A1 l1.length l1) (hc1:l1.length≤c1) (hr2:Kd.C (Kd.int .u64) w A2 l2.length l2) (hc2:l2.length≤c2) (h:limbs_Less.f l1 l2 = some r) :
  Calls Try.prog 103 #[.pointer none,.slice A1 l1.length c1,.slice A2 l2.length c2] w fun e w' => e = .returned (.int .u64 r)∧Below w.heap.size w w':=by
 have HR1:=Aside0.mk hr1
 have HC1:=Aside0.mk hc1
 clear hr1 hc1
 have HR2:=Aside0.mk hr2
 have HC2:=Aside0.mk hc2
 clear hr2 hc2
 have HB:=Aside0.mk (Below.refl w.heap.size w)
 have H:((limbs_Sub.f l1 l2).bind fun bt108 => (some bt108.2)) = some r:=h
 clear h
 replace H:=Option.bind_eq_some_iff.mp H
 obtain ⟨⟨t108,t109⟩,A40,H⟩:=H
 replace H:(some t109) = some r:=H
 have A4:=Aside0.mk A40
 clear A40
 obtain rfl:=Option.some.inj H
 go_enter Try.func103,Try.ntmps103
 go_wp2_with (first | ((with_reducible refine gate_callee (f:=107) rfl ?_);refine goesL_ (some 13) rfl rfl Try.func107 (by kernel_rfl) rfl #[.pointer none,.slice A1 l1.length c1,.slice A2 l2.length c2] rfl vA ?_;(with_reducible refine (limbs_Sub.calls  _ _ l1 _ _ l2 t108 t109 _ ?side1 ?side2 ?side3 ?side4 A4.out).mono ?_);(case side1 => repeat (first | exact HR1.out | (with_reducible refine Kd.C_alloc ?_ _) | (with_reducible refine Kd.C_drewN ?_ _) | (with_reducible refine Kd.C_drew ?_)));(case side2 => exact HC1.out);(case side3 => repeat (first | exact HR2.out | (with_reducible refine Kd.C_alloc ?_ _) | (with_reducible refine Kd.C_drewN ?_ _) | (with_reducible refine Kd.C_drew ?_)));(case side4 => exact HC2.out);rintro e w5 ⟨v110,rfl,ho0,hb⟩;refine ⟨_,rfl,?_⟩;have n0_:=Aside0.mk (Kd.R_lower ho0 (below_size (vB HB.out)));have n1_:=Aside0.mk (below_step (vB HB.out) hb);clear HB;have HO111:=n0_;have HB:=n1_;clear n0_ n1_;(try clear hb);(try clear hb2);(try clear hk);(try clear hi);(try clear ho0)))
 go_ret
 exact ⟨by first | rfl | (simp [errW_none,errW_some] <;> rfl) | (simp [*,errW_none,errW_some] <;> rfl),by repeat (first | (with_reducible first | exact HB.out | apply below_alloc | apply pw_below_drewN | apply below_drew1) | exact HB.out)⟩
theorem w_add64 (x y c:Int) (hx:0≤x) (hy:0≤y) (hc0:0≤c) (hc:c≤1) (w:World):(callFunc 171 #[.int .u64 x,.int .u64 y,.int .u64 c]).run Try.prog w =
  .ok (.value (.tuple #[.int .u64 ((x + y + c) % 18446744073709551616),.int .u64 ((x + y + c) / 18446744073709551616)])) w:=by
 obtain ⟨x,rfl⟩:=Int.eq_ofNat_of_zero_le hx
 obtain ⟨y,rfl⟩:=Int.eq_ofNat_of_zero_le hy
 obtain ⟨c,rfl⟩:=Int.eq_ofNat_of_zero_le hc0
 rw [run_callFunc_extern Try.func171 (by kernel_rfl) (by kernel_rfl) (by kernel_rfl) (e:=add64Entry) (by kernel_rfl),run_add64 x y c (by omega) (by omega) (by omega) (by omega)]
 simp only [Result.andThen]
theorem w_add64_0 (x y:Int) (hx:0≤x) (hy:0≤y) (w:World):(callFunc 171 #[.int .u64 x,.int .u64 y,.int .u64 0]).run Try.prog w =
  .ok (.value (.tuple #[.int .u64 ((x + y) % 18446744073709551616),.int .u64 ((x + y) / 18446744073709551616)])) w:=by
 simpa using w_add64 x y 0 hx hy (Int.le_refl 0) (by decide) w
def word_Add.f (a0 a1 a2:Int):Option (Int × Int) :=
 if (0≤a0∧0≤a1)∧(0≤a2∧a2 < 18446744073709551616) then some ((a0 + a1 + a2 % 2) % 18446744073709551616,(a0 + a1 + a2 % 2) / 18446744073709551616) else none
theorem word_Add.calls (a0 a1 a2 r1 r2:Int) (w:World) (h:word_Add.f a0 a1 a2 = some (r1,r2)) :
  Calls Try.prog 144 #[.int .u64 a0,.int .u64 a1,.int .u64 a2] w fun e w' => e = .returned (.tuple #[.int .u64 r1,.int .u64 r2])∧Drawn0 w w':=by
 unfold word_Add.f at h
 split at h
 ·
  rename_i hc
  obtain ⟨⟨h0,h1⟩,h2,h3⟩:=hc
  simp only [Option.some.injEq,Prod.mk.injEq] at h
  obtain ⟨rfl,rfl⟩:=h
  have hb:=and_one_u64 a2 h2 (by omega)
  have hm0:0≤a2 % 2:=by omega
  have hm1:a2 % 2≤1:=by omega
  have HB:=Lib.hid hb
  clear hb
  go_enter Try.func144,Try.ntmps144
  go_wp2_with (first | (rw [HB.out];simp only [w_add64 a0 a1 _ h0 h1 hm0 hm1]) | simp only [w_add64 a0 a1 _ h0 h1 hm0 hm1])
  go_ret2
  exact ⟨rfl,Drawn0.refl _⟩
 ·
  exact absurd h (by simp)
theorem limbs_AddIf_1 (x y m k r1 r2:Int) (bm bk:Nat) (w:World) (hm:w.heap[bm]? = some (.cells #[.int .u64 m] 24 (0,0))) (hk:w.heap[bk]? = some (.cells #[.int .u64 k] 24 (0,0)))
  (h:word_Add.f x (Go.bits .and .u64 y m) k = some (r1,r2)) :
  Calls Try.prog 143 #[.int .u64 x,.int .u64 y,.pointer (some ⟨bm,0,none⟩),.pointer (some ⟨bk,0,none⟩)] w fun e w' => e = .returned (.int .u64 r1)∧Upd w w' bk (.int .u64 r2) 24:=by
 have cm:=cell_of_one hm
 have ck:=cell_of_one hk
 have fk:=free_of_one hk
 have HK:=Aside0.mk hk
 clear hm hk
 have H:=Aside0.mk h
 clear h
 go_enter Try.func143,Try.ntmps143
 go_wp2_with (go_at_call 144;refine (word_Add.calls _ _ _ r1 r2 _ H.out).mono ?_;rintro e w' ⟨rfl,⟨n,rfl⟩⟩)
 go_ret
 exact ⟨rfl,Upd.put HK.out n _⟩
theorem limbs_each_AddIf (n:Nat) (A1 A2:Option Addr) (c1 c2:Nat) (l1 l2:List Int) (m:Int) (bm:Nat) (bk:Nat) (D cy:Nat→Int) (w0 w:World)
  (hr1:Kd.C (Kd.int .u64) w0 A1 l1.length l1) (hc1:l1.length≤c1) (hr2:Kd.C (Kd.int .u64) w0 A2 l2.length l2) (hc2:l2.length≤c2)
  (hn:(if l1.length < l2.length then (l2.length:Int) else (l1.length:Int)) = (n:Int)) (hn2:n≤35184372088832)
  (hB:Below w0.heap.size w0 w) (hbm:w0.heap.size≤bm) (hmk:bm≠bk) (hm:w.heap[bm]? = some (.cells #[.int .u64 m] 24 (0,0))) (hbk:w0.heap.size≤bk) (hk:w.heap[bk]? = some (.cells #[.int .u64 (cy 0)] 24 (0,0)))
  (hst:∀ i,i < n→∀ W:World,W.heap[bm]? = some (.cells #[.int .u64 m] 24 (0,0))→W.heap[bk]? = some (.cells #[.int .u64 (cy i)] 24 (0,0)) →
   Calls Try.prog 143 #[.int .u64 (Ma.at0 l1 i),.int .u64 (Ma.at0 l2 i),.pointer (some ⟨bm,0,none⟩),.pointer (some ⟨bk,0,none⟩)] W fun e W' => e = .returned (.int .u64 (D i))∧Upd W W' bk (.int .u64 (cy (i + 1))) 24) :
  Calls Try.prog 142 #[.pointer none,.slice A1 l1.length c1,.slice A2 l2.length c2,.func (.func 143) #[] #[.pointer (some ⟨bm,0,none⟩),.pointer (some ⟨bk,0,none⟩)]] w fun e w' =>
   ∃ v,e = .returned v∧Kd.R (Kd.int .u64) 24 w' w.heap.size (fun _ => True) v (Ma.mk D n)∧Below w0.heap.size w0 w'∧w'.heap[bk]? = some (.cells #[.int .u64 (cy n)] 24 (0,0)):=by
 have HR1:=Aside0.mk hr1
 have HR2:=Aside0.mk hr2
 have HM:=Aside0.mk hm
 have lbm:=blk_lt hm
 clear hm
 have HK:=Aside0.mk hk
 have HB:=Aside0.mk hB
 have HST:=Aside0.mk hst
 have lbk:=blk_lt hk
 clear hr1 hr2 hk hB hst
 go_enter Try.func142,Try.ntmps142
 go_wp2_with (first
  | (go_at_call 145;refine (trace_Trace_Span.calls _ _ rfl).mono ?_;rintro e w1 ⟨rfl,hb1⟩)
  | ((with_reducible refine gate_dst (N:=21) rfl ?_);refine Kd.R_make (Kd.int .u64) _ 24 rfl (N:=21) rfl 23 _ _ rfl (n:Int) rfl rfl Try.underlying23 (.int .u64 0) 8 info24 rfl (by decide) (by omega) 0 (ok:=fun k_ => w.heap.size≤k_) (okp:=fun k_ => w.heap.size≤k_) rfl (fun _ hk => hk) hb1.size (by omega) (by simp only [Int.toNat_natCast];omega) (Below.refl _ _) (Nat.le_refl _) ?_;intro v2 w2 ho2 hb2 hg2 hnew2;clear hg2 hnew2;simp only [Int.toNat_natCast] at ho2;have HO:=Aside0.mk (Kd.R_lower ho2 hb1.size);have HB2:=Aside0.mk (below_then hb1 hb1.size hb2);clear ho2 hb2 hb1;obtain ⟨Ao,co,eo⟩:=Kd.R_slice HO.out;rw [List.length_replicate] at eo;subst eo))
 have HB3:=Aside0.mk (below_then HB.out HB.out.size HB2.out)
 have HM3:=Aside0.mk ((HB2.out.block bm lbm).trans HM.out)
 have HK3:=Aside0.mk ((HB2.out.block bk lbk).trans HK.out)
 clear HB HM HK
 obtain ⟨wB,hwB⟩:∃ q,q = w.heap.size:=⟨_,rfl⟩
 rw [← hwB] at HO lbm lbk
 have HWB:=Aside0.mk hwB
 clear hwB HB2
 go_loopg [23] (n + 1) (fun q v23 wr => ∃ i:Nat,i + q = n + 1∧i≤n∧v23 = .int .i64 i∧Aside0 (Kd.R (Kd.int .u64) 24 wr wB (fun k_ => wB≤k_) (.slice Ao n co) (Ma.mk D i ++ List.replicate (n - i) 0))∧Aside0 (Below w0.heap.size w0 wr)∧Aside0 (wr.heap[bm]? = some (.cells #[.int .u64 m] 24 (0,0)))∧Aside0 (wr.heap[bk]? = some (.cells #[.int .u64 (cy i)] 24 (0,0))))
 case atStart => exact ⟨0,by omega,by omega,rfl,⟨by simpa [Ma.mk] using HO.out⟩,HB3,HM3,HK3⟩
 case round =>
  clear HB3 HM3 HK3 HO
  obtain ⟨i,hiq,hin,rfl,HO,HB,HM,HK⟩:=hrel
  have hl:=Ma.mk_full_length D hin
  cases gk with
  | zero => omega
  | succ k1 =>
   by_cases hlt:i < n
   ·
    have d1:decide ((i:Int) < (n:Int)) = true:=decide_eq_true (by omega)
    have d2:decide (i < n) = true:=decide_eq_true hlt
    have HE:=Aside0.mk hiq
    clear hiq
    go_wp2_with (first
     | ((with_reducible refine gate_callee (f:=165) rfl ?_);refine goesL_ (some 31) rfl rfl Try.func165 (by kernel_rfl) rfl #[.slice A1 l1.length c1,.int .i64 (i:Int)] rfl (by (try simp only [List.map_toArray,List.map_cons,List.map_nil]);first | done | rfl) ?_;(with_reducible refine (limbs_at.calls _ _ l1 (i:Int) (Ma.at0 l1 i) _ ?s1 hc1 (sp_limbs_at l1 i)).mono ?_);(case s1 => exact Kd.C_below HR1.out (pw_below_drewN HB.out 0));rintro e w' ⟨rfl,⟨nd,rfl⟩⟩;refine ⟨_,rfl,?_⟩)
     | ((with_reducible refine gate_callee (f:=165) rfl ?_);refine goesL_ (some 34) rfl rfl Try.func165 (by kernel_rfl) rfl #[.slice A2 l2.length c2,.int .i64 (i:Int)] rfl (by (try simp only [List.map_toArray,List.map_cons,List.map_nil]);first | done | rfl) ?_;(with_reducible refine (limbs_at.calls _ _ l2 (i:Int) (Ma.at0 l2 i) _ ?s2 hc2 (sp_limbs_at l2 i)).mono ?_);(case s2 => exact Kd.C_below HR2.out (pw_below_drewN HB.out _));rintro e w' ⟨rfl,⟨nd2,rfl⟩⟩;refine ⟨_,rfl,?_⟩))
    refine (HST.out i hlt _ (by exact HM.out) (by exact HK.out)).mono ?_
    rintro e w3 ⟨rfl,hp⟩
    have HO3:=Aside0.mk (hp.row (Kd.R_drewN HO.out _) (fun k hk => by omega))
    have HM3:=Aside0.mk (hp.far (o:=.cells #[.int .u64 m] 24 (0,0)) HM.out hmk)
    have HK3:=Aside0.mk hp.at_
    have HB3:=Aside0.mk (hp.below (pw_below_drewN HB.out _) hbk)
    clear hp HO HM HK HB
    obtain ⟨go,co2,eo,gb,gl,cl,HG⟩:=Kd.R_form HO3.out (by rw [hl];omega)
    rw [hl] at eo
    cases eo
    have p1:(0:Int)≤(i:Int):=by omega
    have q1:(i:Int) < (n:Int):=by omega
    obtain ⟨hx,hf⟩:=Kd.R_celln 0 HO3.out (i:Int) p1 q1
    have hP:=(Kd.R_putg HO3.out (i:Int) (D i)).1
    simp only [Int.toNat_natCast] at hx hf hP
    rw [Ma.mk_set D hlt] at hP
    have HP:=Aside0.mk hP
    clear HG cl hP
    go_wp2_with ((with_reducible refine gate_store (t:=24) (p:=36) rfl ?_);refine store_event (t:=24) (p:=36) (v:=?vo) (w1:=(w3.setCell ⟨go,i,none⟩ (.int .u64 (D i)))) ?hg ?ho ?hn ?hr ?_;(case ho => rfl);(case hg => rfl);(case hn => rfl);(case hr => first | (go_simp;done) | (go_simp;rfl));intro w4 hw;have HO4:=Aside0.mk (show Kd.R (Kd.int .u64) 24 w4 wB (fun k_ => wB≤k_) (.slice (some ⟨go,0,none⟩) n co) (Ma.mk D (i + 1) ++ List.replicate (n - (i + 1)) 0) from by rw [hw];exact HP.out);have HB4:=Aside0.mk (show Below w0.heap.size w0 w4 from by rw [hw];exact below_set HB3.out (by omega));have HM4:=Aside0.mk (show w4.heap[bm]? = some (.cells #[.int .u64 m] 24 (0,0)) from by rw [hw];exact blk_far HM3.out (by show bm≠go;omega) _);have HK4:=Aside0.mk (show w4.heap[bk]? = some (.cells #[.int .u64 (cy (i + 1))] 24 (0,0)) from by rw [hw];exact blk_far HK3.out (by show bk≠go;omega) _);clear hw HP HO3 HB3 HM3 HK3 hx hf)
    go_roundg k1
    case measure => omega
    case rel => exact ⟨i + 1,by have:=HE.out;omega,by omega,by go_num,HO4,HB4,HM4,HK4⟩
   ·
    have hin':i = n:=by omega
    subst hin'
    have d1:decide ((i:Int) < (i:Int)) = false:=decide_eq_false (by omega)
    have d2:decide (i < i) = false:=decide_eq_false hlt
    go_wp2
    go_ret
    have h:=HO.out
    rw [HWB.out] at h
    exact ⟨_,rfl,by simpa using Kd.R_mono h (fun _ _ => trivial),HB.out,HK.out⟩
def limbs_AddIf.f (a1:Int) (l2 l3:List Int):Option (List Int × Int) :=
 if (Ma.wd a1 = true∧max l2.length l3.length≤35184372088832)∧l2.all Ma.wd = true∧l3.all Ma.wd = true then some (Ma.mk (Ma.dgA (a1 % 2) l2 l3) (max l2.length l3.length),Ma.cyA (a1 % 2) l2 l3 (max l2.length l3.length)) else none
theorem mask_val_AddIf {a:Int} (ha:Ma.wd a = true):word_Mask.f a = some (if a % 2 = 1 then 18446744073709551615 else 0):=by
 rw [Ma.wd_iff] at ha
 unfold word_Mask.f;rw [Ma.b_and1 ha.1 ha.2,Ma.wU]
 congr 1;split <;> omega
theorem AddIf_step {a1 m:Int} {l2 l3:List Int} (hm:m = if a1 % 2 = 1 then 18446744073709551615 else 0) (h2:l2.all Ma.wd = true) (h3:l3.all Ma.wd = true) (i:Nat) :
  word_Add.f (Ma.at0 l2 i) (Go.bits .and .u64 (Ma.at0 l3 i) m) (Ma.cyA (a1 % 2) l2 l3 i) = some (Ma.dgA (a1 % 2) l2 l3 i,Ma.cyA (a1 % 2) l2 l3 (i + 1)):=by
 have x2:=Ma.at0_dg (by decide) (Ma.wds_dg.1 h2) i
 have x3:=Ma.at0_dg (by decide) (Ma.wds_dg.1 h3) i
 have xc:=Ma.cyA_bit (m:=a1 % 2) (by omega) (Ma.wds_dg.1 h2) (Ma.wds_dg.1 h3) i
 have x4:0≤a1 % 2 * Ma.at0 l3 i:=Int.mul_nonneg (by omega) x3.1
 rw [and_mask x3 m hm]
 unfold word_Add.f
 rw [if_pos ⟨⟨x2.1,x4⟩,xc.1,by omega⟩,show Ma.cyA (a1 % 2) l2 l3 i % 2 = Ma.cyA (a1 % 2) l2 l3 i by omega]
 rfl
theorem limbs_AddIf.calls (a1:Int) (A2:Option Addr) (c2:Nat) (l2:List Int) (A3:Option Addr) (c3:Nat) (l3:List Int) (r1:List Int) (r2:Int) (w:World) (hr2:Kd.C (Kd.int .u64) w A2 l2.length l2) (hc2:l2.length≤c2) (hr3:Kd.C (Kd.int .u64) w A3 l3.length l3) (hc3:l3.length≤c3) (h:limbs_AddIf.f a1 l2 l3 = some (r1,r2)) :
  Calls Try.prog 104 #[.pointer none,.int .u64 a1,.slice A2 l2.length c2,.slice A3 l3.length c3] w fun e w' => ∃ v0_:Value,e = .returned (.tuple #[v0_,.int .u64 r2])∧Kd.R (Kd.int .u64) 24 w' w.heap.size (fun _ => True) v0_ r1∧Below w.heap.size w w':=by
 unfold limbs_AddIf.f at h
 split at h
 ·
  rename_i hc
  obtain ⟨⟨h1,hn2⟩,h2,h3⟩:=hc
  simp only [Option.some.injEq,Prod.mk.injEq] at h
  obtain ⟨rfl,rfl⟩:=h
  have HM:=Aside0.mk (mask_val_AddIf h1)
  obtain ⟨m,hm⟩:∃ m:Int,m = if a1 % 2 = 1 then 18446744073709551615 else 0:=⟨_,rfl⟩
  rw [← hm] at HM
  have HST:=Aside0.mk (AddIf_step hm h2 h3)
  clear hm h1 h2 h3
  have HR2:=Aside0.mk hr2
  have HR3:=Aside0.mk hr3
  clear hr2 hr3
  obtain ⟨n,hn⟩:∃ n,n = max l2.length l3.length:=⟨_,rfl⟩
  rw [← hn] at hn2 ⊢
  have HN:=Aside0.mk hn
  clear hn
  have hx1:∀ nd,((w.drewN nd).alloc (.cells #[.int .u64 0] 24)).cell? ⟨w.heap.size,0,none⟩ = some (.int .u64 0):=fun nd => (blk_cell (heap_alloc_new (w.drewN nd) _) 0).trans rfl
  have hx2:∀ nd,((w.drewN nd).alloc (.cells #[.int .u64 0] 24)).frozen? ⟨w.heap.size,0,none⟩ = false:=fun nd => blk_frozen (heap_alloc_new (w.drewN nd) _) 0
  go_enter Try.func104,Try.ntmps104
  go_wp2_with (go_at_call 141;refine (word_Mask.calls a1 m _ HM.out).mono ?_;rintro e w' ⟨rfl,⟨nd,rfl⟩⟩)
  obtain ⟨hb1,hb2,hb3⟩:=two_boxes w nd (.int .u64 0) (.int .u64 0) (.int .u64 m) 24
  refine (limbs_each_AddIf n A2 A3 c2 c3 l2 l3 m w.heap.size (w.heap.size + 1) (Ma.dgA (a1 % 2) l2 l3) (Ma.cyA (a1 % 2) l2 l3) w _ HR2.out hc2 HR3.out hc3 (by have:=HN.out;split <;> omega) hn2 hb3 (Nat.le_refl _) (by omega) hb1 (by omega) hb2 (fun i _ W k1 k2 => limbs_AddIf_1 _ _ m _ _ _ _ _ W k1 k2 (HST.out i))).mono ?_
  rintro e w3 ⟨v,rfl,hR,hB,hK⟩
  have hz:=below_size hb3
  have HR:=Aside0.mk (Kd.R_lower hR hz)
  have HB:=Aside0.mk hB
  have ck:=cell_of_one hK
  clear hb1 hb2 hb3 hR hB hz hK hx1 hx2
  go_wp2
  go_quiet (fail)
  go_wp2
  go_ret2
  exact ⟨v,rfl,Kd.R_drewN HR.out _,pw_below_drewN HB.out _⟩
 ·
  exact absurd h (by simp)
def word_Select.f (a0:Int) (a1:Int) (a2:Int):Option (Int):=(word_Mask.f a0).bind fun t116 => (some (Go.bits .or .u64 (Go.bits .and .u64 a1 t116) (Go.bits .andNot .u64 a2 t116)))
theorem word_Select.calls (a0:Int) (a1:Int) (a2:Int) (r:Int) (w:World) (h:word_Select.f a0 a1 a2 = some r) :
  Calls Try.prog 148 #[.int .u64 a0,.int .u64 a1,.int .u64 a2] w fun e w' => e = .returned (.int .u64 r)∧Drawn0 w w':=by
 have H:((word_Mask.f a0).bind fun t116 => (some (Go.bits .or .u64 (Go.bits .and .u64 a1 t116) (Go.bits .andNot .u64 a2 t116)))) = some r:=h
 clear h
 replace H:=Option.bind_eq_some_iff.mp H
 obtain ⟨t116,A40,H⟩:=H
 replace H:(some (Go.bits .or .u64 (Go.bits .and .u64 a1 t116) (Go.bits .andNot .u64 a2 t116))) = some r:=H
 have A4:=Aside0.mk A40
 clear A40
 obtain rfl:=Option.some.inj H
 go_enter Try.func148,Try.ntmps148
 go_wp2_with (first | ((with_reducible refine gate_callee (f:=141) rfl ?_);refine goesL_ (some 9) rfl rfl Try.func141 (by kernel_rfl) rfl #[.int .u64 a0] rfl vA ?_;(with_reducible refine (word_Mask.calls a0 t116 _ A4.out).mono ?_);rintro e w' ⟨rfl,⟨nd,rfl⟩⟩;refine ⟨_,rfl,?_⟩))
 go_ret
 exact ⟨by first | rfl | (simp;done) | (simp [*];done),by repeat (first | exact Drawn0.refl _ | apply Drawn0.step)⟩
end Go.Proofs.Ytonpekldcnankaa.X
end
section
namespace Go.Proofs.Ytonpekldcnankaa.X
open Go.RowKit Go.Proofs.YtonpekldcnankaaW.PrintWords Go.Proofs.YtonpekldcnankaaW.PrintLast Go.Proofs.YtonpekldcnankaaW.PrintMore
attribute [local go_sem] max2_int min2_int max_two min_two max_three min_three max_four min_four
set_option linter.unusedVariables false
set_option linter.unusedSimpArgs false
def ring_Minus.f  (l1_0:List Int) (a1_1:Int) (l1_2:List Int) (l2:List Int) (l3:List Int):Option (List Int):=(limbs_Sub.f l2 l3).bind fun bt442 => ((limbs_AddIf.f bt442.2 bt442.1 l1_0).bind fun bt446 => (some bt446.1))
theorem ring_Minus.calls  (A1_0:Option Addr) (c1_0:Nat) (l1_0:List Int) (a1_1:Int) (A1_2:Option Addr) (c1_2:Nat) (l1_2:List Int) (A2:Option Addr) (c2:Nat) (l2:List Int) (A3:Option Addr) (c3:Nat) (l3:List Int) (r:List Int) (w:World) (hr1_0:Kd.C (Kd.int .u64) w A1_0 l1_0.length l1_0) (hc1_0:l1_0.length≤c1_0) (hr1_2:Kd.C (Kd.int .u64) w A1_2 l1_2.length l1_2) (hc1_2:l1_2.length≤c1_2) (hr2:Kd.C (Kd.int .u64) w A2 l2.length l2) (hc2:l2.length≤c2) (hr3:Kd.C (Kd.int .u64) w A3 l3.length l3) (hc3:l3.length≤c3) (h:ring_Minus.f l1_0 a1_1 l1_2 l2 l3 = some r) :
  Calls Try.prog 73 #[.pointer none,.agg #[.slice A1_0 l1_0.length c1_0,.int .u64 a1_1,.slice A1_2 l1_2.length c1_2],.slice A2 l2.length c2,.slice A3 l3.length c3] w fun e w' => ∃ v0_:Value,e = .returned (v0_)∧Kd.R (Kd.int .u64) 24 w' w.heap.size (fun _ => True) v0_ r∧Below w.heap.size w w':=by
 have hu26:=Try.underlying26
 have HR1_0:=Aside0.mk hr1_0
 have HC1_0:=Aside0.mk hc1_0
 clear hr1_0 hc1_0
 have HR1_2:=Aside0.mk hr1_2
 have HC1_2:=Aside0.mk hc1_2
 clear hr1_2 hc1_2
 have HR2:=Aside0.mk hr2
 have HC2:=Aside0.mk hc2
 clear hr2 hc2
 have HR3:=Aside0.mk hr3
 have HC3:=Aside0.mk hc3
 clear hr3 hc3
 have HB:=Aside0.mk (Below.refl w.heap.size w)
 have H:((limbs_Sub.f l2 l3).bind fun bt442 => ((limbs_AddIf.f bt442.2 bt442.1 l1_0).bind fun bt446 => (some bt446.1))) = some r:=h
 clear h
 replace H:=Option.bind_eq_some_iff.mp H
 obtain ⟨⟨t442,t443⟩,A50,H⟩:=H
 replace H:((limbs_AddIf.f t443 t442 l1_0).bind fun bt446 => (some bt446.1)) = some r:=H
 have A5:=Aside0.mk A50
 clear A50
 replace H:=Option.bind_eq_some_iff.mp H
 obtain ⟨⟨t446,t447⟩,A60,H⟩:=H
 replace H:(some t446) = some r:=H
 have A6:=Aside0.mk A60
 clear A60
 obtain rfl:=Option.some.inj H
 go_enter Try.func73,Try.ntmps73
 go_wp2_with (first | ((with_reducible refine gate_dst (N:=5) rfl ?_);refine box_event ?hg (N:=5) ?hd (cs:=#[.slice A1_0 l1_0.length c1_0,.int .u64 a1_1,.slice A1_2 l1_2.length c1_2]) (t:=26) ?hr ?_;(case hd => rfl);(case hg => rfl);(case hr => first | (go_simp;done) | (go_simp;rfl));intro gb441 hg w7 hbox hb;have n0_:=Aside0.mk (below_step (vB HB.out) hb);have n1_:=Aside0.mk (hbox);have n2_:=Aside0.mk ((by rw [hg];exact (below_size (vB HB.out)):w.heap.size≤gb441));have n3_:=Aside0.mk ((by rw [hg];exact (below_size (vB HB.out)):w.heap.size≤gb441));clear HB;have HB:=n0_;have BK441:=n1_;have GW441:=n2_;have GE441:=n3_;clear n0_ n1_ n2_ n3_;clear hb hbox hg) | ((with_reducible refine gate_callee (f:=107) rfl ?_);refine goesL_ (some 17) rfl rfl Try.func107 (by kernel_rfl) rfl #[.pointer none,.slice A2 l2.length c2,.slice A3 l3.length c3] rfl vA ?_;(with_reducible refine (limbs_Sub.calls  _ _ l2 _ _ l3 t442 t443 _ ?side1 ?side2 ?side3 ?side4 A5.out).mono ?_);(case side1 => repeat (first | exact (Kd.C_below HR2.out HB.out) | (with_reducible refine Kd.C_alloc ?_ _) | (with_reducible refine Kd.C_drewN ?_ _) | (with_reducible refine Kd.C_drew ?_)));(case side2 => exact HC2.out);(case side3 => repeat (first | exact (Kd.C_below HR3.out HB.out) | (with_reducible refine Kd.C_alloc ?_ _) | (with_reducible refine Kd.C_drewN ?_ _) | (with_reducible refine Kd.C_drew ?_)));(case side4 => exact HC3.out);rintro e w8 ⟨v444,rfl,ho0,hb⟩;refine ⟨_,rfl,?_⟩;have n0_:=Aside0.mk (Kd.R_lower ho0 (below_size (vBg HB.out GE441.out)));have n1_:=Aside0.mk (blk_below (g:=gb441) (o:=.cells #[.slice A1_0 l1_0.length c1_0,.int .u64 a1_1,.slice A1_2 l1_2.length c1_2] 26 (0,0)) (vK BK441.out) hb);have n2_:=Aside0.mk (below_step (vBg HB.out GE441.out) hb);clear BK441;clear HB;have HO445:=n0_;have BK441:=n1_;have HB:=n2_;clear n0_ n1_ n2_;(try clear hb);(try clear hb2);(try clear hk);(try clear hi);(try clear ho0);have hcz9_0:w8.cell? ⟨gb441,0,none⟩ = some (.slice A1_0 l1_0.length c1_0):=(blk_cell BK441.out 0).trans rfl;have hcz9_1:w8.cell? ⟨gb441,1,none⟩ = some (.int .u64 a1_1):=(blk_cell BK441.out 1).trans rfl;have hcz9_2:w8.cell? ⟨gb441,2,none⟩ = some (.slice A1_2 l1_2.length c1_2):=(blk_cell BK441.out 2).trans rfl;have hfz9_0:=blk_frozen BK441.out 0;have hfz9_1:=blk_frozen BK441.out 1;have hfz9_2:=blk_frozen BK441.out 2;obtain ⟨Ao10,co10,eo10⟩:=Kd.R_slice HO445.out;subst eo10) | ((with_reducible refine gate_callee (f:=104) rfl ?_);refine goesL_ (some 26) rfl rfl Try.func104 (by kernel_rfl) rfl #[.pointer none,.int .u64 t443,.slice Ao10 t442.length co10,.slice A1_0 l1_0.length c1_0] rfl vA ?_;(with_reducible refine (limbs_AddIf.calls  t443 _ _ t442 _ _ l1_0 t446 t447 _ ?side1 ?side2 ?side3 ?side4 A6.out).mono ?_);(case side1 => repeat (first | exact (Kd.R_reads' HO445.out).2.2 | (with_reducible refine Kd.C_alloc ?_ _) | (with_reducible refine Kd.C_drewN ?_ _) | (with_reducible refine Kd.C_drew ?_)));(case side2 => exact (Kd.R_reads' HO445.out).2.1);(case side3 => repeat (first | exact (Kd.C_below HR1_0.out HB.out) | (with_reducible refine Kd.C_alloc ?_ _) | (with_reducible refine Kd.C_drewN ?_ _) | (with_reducible refine Kd.C_drew ?_)));(case side4 => exact HC1_0.out);rintro e w11 ⟨v448,rfl,ho0,hb⟩;refine ⟨_,rfl,?_⟩;have n0_:=Aside0.mk (Kd.R_elder' (vR HO445.out) (Kd.R_base ho0) hb);have n1_:=Aside0.mk (Kd.R_lower (Kd.R_new' ho0 (Kd.R_lt (vR HO445.out))) (below_size (vBg HB.out GE441.out)));have n2_:=Aside0.mk (blk_below (g:=gb441) (o:=.cells #[.slice A1_0 l1_0.length c1_0,.int .u64 a1_1,.slice A1_2 l1_2.length c1_2] 26 (0,0)) (vK BK441.out) hb);have n3_:=Aside0.mk (below_step (vBg HB.out GE441.out) hb);clear HO445;clear BK441;clear HB;have HO445:=n0_;have HO449:=n1_;have BK441:=n2_;have HB:=n3_;clear n0_ n1_ n2_ n3_;(try clear hb);(try clear hb2);(try clear hk);(try clear hi);(try clear ho0)))
 go_ret
 exact ⟨_,by first | rfl | (simp [errW_none,errW_some] <;> rfl) | (simp [*,errW_none,errW_some] <;> rfl),by (with_reducible repeat (first | apply Kd.R_alloc | apply Kd.R_drewN | apply Kd.R_drew));exact Kd.R_mono HO449.out (fun _ hk => trivial),by repeat (first | (with_reducible first | exact HB.out | apply below_alloc | apply pw_below_drewN | apply below_drew1 | refine below_set ?_ GE441.out) | exact HB.out)⟩
end Go.Proofs.Ytonpekldcnankaa.X
end
