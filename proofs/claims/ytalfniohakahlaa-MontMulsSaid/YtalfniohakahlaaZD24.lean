/- Texts of the walk and of the plain laws, laid together by a program: Mw. -/
import Derived.Laws.CopyOwn
import Derived.Test.YtalfniohakahlaaZD0
import Derived.Test.YtalfniohakahlaaZD1
import Derived.Test.YtalfniohakahlaaZD2
import Derived.Test.YtalfniohakahlaaZD5
import Derived.Test.YtalfniohakahlaaZD4
import Derived.Test.YtalfniohakahlaaZD6
import Derived.Test.YtalfniohakahlaaZD3
import Derived.Test.YtalfniohakahlaaZD15
import Derived.Test.YtalfniohakahlaaZD14
import Derived.Test.YtalfniohakahlaaZD21
namespace Go.Proofs.Ytalfniohakahlaa.X
open Go.RowKit Go.Proofs.YtalfniohakahlaaW.PrintWords Go.Proofs.YtalfniohakahlaaW.PrintLast Go.Proofs.YtalfniohakahlaaW.PrintMore Go.Proofs.Ytalfniohakahlaa.Ma
attribute [local go_sem] max2_int min2_int max_two min_two max_three min_three max_four min_four
set_option linter.unusedVariables false
set_option linter.unusedSimpArgs false
theorem R_blk {W:World} {g base:Nat} {xs:List Int} {ok:Nat→Prop} (h:W.heap[g]? = some (.cells (encs (Value.int .u64) xs).toArray 37 (0,0))) (hb:base≤g) (hn:xs.length≤35184372088832) (hok:ok g) :
    Kd.R (Kd.int .u64) 37 W base ok (.slice (some ⟨g,0,none⟩) xs.length xs.length) xs:=by
  have ho:W.ownsRow base 37 1 (.slice (some ⟨g,0,none⟩) xs.length xs.length) xs.length (encs (Value.int .u64) xs):=by
    refine ⟨by simp [encs],.inr ⟨g,xs.length,_,rfl,hb,h,Nat.le_refl _,by unfold maxLen;omega,by simp [encs],?_⟩⟩
    rw [List.take_of_length_le (by simp [encs])]
  exact Kd.R_of_own (h1:=fun _ => rfl) (ok:=ok) ho (fun k hk => (show g = k by simpa [Value.ownBlock] using hk) ▸ hok)
theorem mk_put2 {f:Nat→Int} {n j:Nat} (y:Int) (h:j < n):(mk f n).set j y = mk (fun p => if p = j then y else f p) n:=by
  apply ext_at0
  · rw [List.length_set,mk_length,mk_length]
  · intro i hi
    rw [List.length_set,mk_length] at hi
    rw [at0_set (by rw [mk_length];exact h),at0_mk hi,at0_mk hi]
theorem mk_congr2 {f g:Nat→Int} {n:Nat} (h:∀ p,p < n→f p = g p):mk f n = mk g n:=by
  unfold mk
  apply List.map_congr_left
  intro p hp
  exact h p (List.mem_range.1 hp)
def mwF (A w C:Nat) (c:List Int) (i:Nat) (j:Nat):Int:=if j < i then (((A * w + C) / 18446744073709551616 ^ j % 18446744073709551616:Nat):Int) else at0 c j
def mwK (A w C i:Nat):Nat:=(A % 18446744073709551616 ^ i * w + C % 18446744073709551616 ^ i) / 18446744073709551616 ^ i
theorem mw_step (A w C i:Nat):A / 18446744073709551616 ^ i % 18446744073709551616 * w + C / 18446744073709551616 ^ i % 18446744073709551616 + mwK A w C i = (A % 18446744073709551616 ^ (i + 1) * w + C % 18446744073709551616 ^ (i + 1)) / 18446744073709551616 ^ i:=by
  have hp:0 < 18446744073709551616 ^ i:=Nat.pow_pos (by decide)
  unfold mwK
  rw [Nat.pow_succ,Nat.mod_mul,Nat.mod_mul]
  generalize 18446744073709551616 ^ i = P at *
  generalize A % P = r
  generalize C % P = s
  generalize A / P % 18446744073709551616 = x
  generalize C / P % 18446744073709551616 = y
  have e:(r + P * x) * w + (s + P * y) = r * w + s + P * (x * w + y):=by rw [Nat.add_mul,Nat.mul_add,Nat.mul_assoc];omega
  rw [e,Nat.add_mul_div_left _ _ hp]
  omega
theorem mw_digit (A w C i:Nat):(A % 18446744073709551616 ^ (i + 1) * w + C % 18446744073709551616 ^ (i + 1)) / 18446744073709551616 ^ i % 18446744073709551616 = (A * w + C) / 18446744073709551616 ^ i % 18446744073709551616:=by
  rw [← Nat.mod_mul_right_div_self,← Nat.mod_mul_right_div_self,← Nat.pow_succ]
  congr 1
  rw [Nat.add_mod,Nat.mul_mod,Nat.mod_mod,Nat.mod_mod,← Nat.mul_mod,← Nat.add_mod]
theorem mw_carry (A w C i:Nat):(A % 18446744073709551616 ^ (i + 1) * w + C % 18446744073709551616 ^ (i + 1)) / 18446744073709551616 ^ i / 18446744073709551616 = mwK A w C (i + 1):=by
  unfold mwK
  rw [Nat.div_div_eq_div_mul,← Nat.pow_succ]
theorem mwK_lt (A w C i:Nat) (hw:w < 18446744073709551616):mwK A w C i < 18446744073709551616:=by
  unfold mwK
  have hp:0 < 18446744073709551616 ^ i:=Nat.pow_pos (by decide)
  rw [Nat.div_lt_iff_lt_mul hp]
  have h1:=Nat.mod_lt A hp
  have h2:=Nat.mod_lt C hp
  generalize 18446744073709551616 ^ i = P at *
  have h3:A % P * w≤(P - 1) * w:=Nat.mul_le_mul_right _ (by omega)
  have h4:(P - 1) * w≤(P - 1) * 18446744073709551615:=Nat.mul_le_mul_left _ (by omega)
  omega
def MwI (w:World) (g n A x C:Nat) (c:List Int) (i:Nat) (wr:World):Prop :=
  Kd.R (Kd.int .u64) 37 wr w.heap.size (fun _ => True) (.slice (some ⟨g,0,none⟩) n n) (mk (mwF A x C c i) n)∧Below w.heap.size w wr
theorem MwI.step {w wr:World} {g n A x C:Nat} {c:List Int} {i:Nat} (h:MwI w g n A x C c i wr) (hi:i < n) (nd:Nat):∃ W:World,W = (wr.drewN nd).setCell ⟨g,i,none⟩ (.int .u64 (((A * x + C) / 18446744073709551616 ^ i % 18446744073709551616:Nat):Int))∧MwI w g n A x C c (i + 1) W:=by
  obtain ⟨h1,h2⟩:=h
  have hg:=own_base h1.2.choose_spec.1 g rfl
  obtain ⟨hP,hQ⟩:=Kd.R_putg (Kd.R_drewN h1 nd) (i:Int) (((A * x + C) / 18446744073709551616 ^ i % 18446744073709551616:Nat):Int)
  rw [Int.toNat_natCast] at hP hQ
  rw [mk_put2 _ hi,mk_congr2 (g:=mwF A x C c (i + 1)) (fun p hp => by
    unfold mwF
    by_cases h5:p = i
    · subst h5;rw [if_pos rfl,if_pos (by omega)]
    · rw [if_neg h5]
      by_cases h6:p < i
      · rw [if_pos h6,if_pos (by omega)]
      · rw [if_neg h6,if_neg (by omega)])] at hP
  exact ⟨_,rfl,hP,pw_below_grown (pw_below_drewN h2 nd) (some g) (pw_below_drewN h2 nd).size hQ (fun k hk => by cases hk;exact hg)⟩
theorem MwI.cell {w wr:World} {g n A x C:Nat} {c:List Int} {i:Nat} (h:MwI w g n A x C c i wr) (hi:i < n):wr.cell? ⟨g,i,none⟩ = some (.int .u64 (at0 c i))∧wr.frozen? ⟨g,i,none⟩ = false:=by
  obtain ⟨hx,hf⟩:=Kd.R_celln 0 h.1 (i:Int) (by omega) (by omega)
  rw [Int.toNat_natCast] at hx hf
  refine ⟨?_,hf⟩
  rw [hx]
  have e:rdOf 0 (mk (mwF A x C c i) n) (i:Int) = at0 (mk (mwF A x C c i) n) i:=by unfold rdOf at0;rw [Int.toNat_natCast]
  show some (Value.int .u64 (rdOf 0 _ _)) = _
  rw [e,at0_mk hi]
  unfold mwF
  rw [if_neg (by omega)]
theorem C_cells {w:World} {A:Option Addr} {l:List Int} (h:Kd.C (Kd.int .u64) w A l.length l) (hp:0 < l.length):∃ ad,A = some ad∧∀ j v,(encs (Value.int .u64) l)[j]? = some v→w.cell? (ad.add j) = some v:=by
  obtain ⟨ad,hA,_⟩:=Kd.at_int h 0 (by omega) (by omega)
  refine ⟨ad,hA,fun j v hj => ?_⟩
  have hjl:j < l.length:=by
    have:=(List.getElem?_eq_some_iff.1 hj).1
    simpa [encs] using this
  obtain ⟨ad',hA',hc⟩:=Kd.at_int h (j:Int) (by omega) (by omega)
  rw [hA] at hA'
  cases hA'
  rw [Int.toNat_natCast] at hc
  rw [hc]
  have hv:v = Value.int .u64 (l[j]):=by simpa [encs,hjl] using hj.symm
  rw [hv]
  simp [rd,hjl]
theorem mw_splice {n A x C:Nat} {c:List Int} (hc:c.length≤n):splice (Zs n).toList 0 (encs (Value.int .u64) c) = encs (Value.int .u64) (mk (mwF A x C c 0) n):=by
  rw [Zs_list,splice,List.take_zero,List.nil_append,Nat.zero_add]
  have e:mk (mwF A x C c 0) n = c ++ List.replicate (n - c.length) 0:=by
    apply ext_at0
    · rw [mk_length,List.length_append,List.length_replicate];omega
    · intro i hi
      rw [mk_length] at hi
      rw [at0_mk hi]
      unfold mwF
      rw [if_neg (by omega)]
      unfold at0
      rw [List.getD_eq_getElem?_getD,List.getD_eq_getElem?_getD]
      by_cases h:i < c.length
      · rw [List.getElem?_append_left h]
      · rw [List.getElem?_append_right (by omega),List.getElem?_eq_none (by omega),List.getElem?_replicate]
        split <;> rfl
  rw [e]
  simp [encs]
theorem mwK_zero (A x C:Nat):mwK A x C 0 = 0:=by unfold mwK;simp [Nat.mod_one]
theorem mw_end {A x C n:Nat} {c:List Int}:mk (mwF A x C c n) n = wds n (A * x + C):=by
  apply ext_at0
  · rw [mk_length,dgs_length]
  · intro i hi
    rw [mk_length] at hi
    rw [at0_mk hi,at0_dgs _ hi]
    unfold mwF
    rw [if_pos hi]
theorem mwK_end {A x C n:Nat} (hA:A < 18446744073709551616 ^ n) (hC:C < 18446744073709551616 ^ n):mwK A x C n = (A * x + C) / 18446744073709551616 ^ n:=by
  unfold mwK;rw [Nat.mod_eq_of_lt hA,Nat.mod_eq_of_lt hC]
theorem mw_word {l1 l3:List Int} (h1:Wd l1) (h3:Wd l3) {x:Nat} (hx:x < 18446744073709551616) (i:Nat) :
    word_Mul.f (at0 l1 i) (x:Int) (at0 l3 i) ((mwK (nW l1) x (nW l3) i:Nat):Int) = some (((mwK (nW l1) x (nW l3) (i + 1):Nat):Int),(((nW l1 * x + nW l3) / 18446744073709551616 ^ i % 18446744073709551616:Nat):Int)):=by
  have e1:=at0_nW h1 i
  have e3:=at0_nW h3 i
  have d1:=at0_dg (by decide) h1 i
  have d3:=at0_dg (by decide) h3 i
  have hk:=mwK_lt (nW l1) x (nW l3) i hx
  rw [sp_word_Mul (wd_iff.2 d1) (wd_iff.2 ⟨by omega,by omega⟩) (wd_iff.2 d3) (wd_iff.2 ⟨by omega,by omega⟩),e1,e3]
  have hT:(((nW l1 / 18446744073709551616 ^ i % 18446744073709551616:Nat):Int) * (x:Int) + ((nW l3 / 18446744073709551616 ^ i % 18446744073709551616:Nat):Int) + ((mwK (nW l1) x (nW l3) i:Nat):Int)) = ((nW l1 / 18446744073709551616 ^ i % 18446744073709551616 * x + nW l3 / 18446744073709551616 ^ i % 18446744073709551616 + mwK (nW l1) x (nW l3) i:Nat):Int):=by
    rw [Int.natCast_add,Int.natCast_add,Int.natCast_mul]
  rw [hT,mw_step,← mw_carry,← mw_digit]
  generalize (nW l1 % 18446744073709551616 ^ (i + 1) * x + nW l3 % 18446744073709551616 ^ (i + 1)) / 18446744073709551616 ^ i = T
  rw [show (T:Int) / 18446744073709551616 = ((T / 18446744073709551616:Nat):Int) by omega,show (T:Int) % 18446744073709551616 = ((T % 18446744073709551616:Nat):Int) by omega]
set_option maxHeartbeats 4000000 in
set_option maxRecDepth 100000 in
theorem product_MulWord_ok (A1:Option Addr) (c1:Nat) (l1:List Int) (x:Nat) (A3:Option Addr) (c3:Nat) (l3:List Int) (w:World) (hr1:Kd.C (Kd.int .u64) w A1 l1.length l1) (hc1:l1.length≤c1) (hr3:Kd.C (Kd.int .u64) w A3 l3.length l3) (hc3:l3.length≤c3)
    (h1:Wd l1) (h3:Wd l3) (hx:x < 18446744073709551616) (hl1:l1.length≤300) (hl3:l3.length≤300) :
    Calls Try.prog 25 #[.pointer none,.slice A1 l1.length c1,.int .u64 (x:Int),.slice A3 l3.length c3] w fun e w' => ∃ v:Value,e = .returned (.tuple #[v,.int .u64 (((nW l1 * x + nW l3) / 18446744073709551616 ^ (max l1.length l3.length):Nat):Int)]) ∧
      Kd.R (Kd.int .u64) 37 w' w.heap.size (fun _ => True) v (wds (max l1.length l3.length) (nW l1 * x + nW l3))∧Below w.heap.size w w':=by
  obtain ⟨n,hn⟩:∃ n:Nat,n = max l1.length l3.length:=⟨_,rfl⟩
  rw [← hn]
  have hmx:(if l1.length < l3.length then (l3.length:Int) else (l1.length:Int)) = (n:Int):=by split <;> omega
  have hn1:l1.length≤n:=by omega
  have hn3:l3.length≤n:=by omega
  have hn2:n≤300:=by omega
  have HMX:=Aside0.mk hmx
  clear hn
  have HA:=Aside0.mk (nW_lt' h1 hn1)
  have HC:=Aside0.mk (nW_lt' h3 hn3)
  have HW:=Aside0.mk (mw_word h1 h3 hx)
  have HG:=Aside0.mk (fun i => at0_ge (l:=l1) (i:=i))
  have H1:=Aside0.mk hr1
  have H2:=Aside0.mk hr3
  obtain ⟨ls,hls⟩:∃ ls:List (List Int),ls = [l1,l3]:=⟨_,rfl⟩
  obtain ⟨kL,hkL⟩:=sp_product_long ls (by rw [hls];simp)
  have hfew:(!(fewB 300 ls)) = false:=by rw [hls];simp only [fewB,List.all_cons,List.all_nil,Bool.and_true];rw [Bool.not_eq_false',Bool.and_eq_true_iff,decide_eq_true_iff,decide_eq_true_iff];omega
  have SL:=Aside0.mk (hkL kL (Nat.le_refl _))
  rw [hfew] at SL
  have HLS:=Aside0.mk hls
  have m1:=run_make_nat n (by omega)
  clear hls hkL hfew hr1 hr3 h1 h3
  go_enter Try.func25,Try.ntmps25
  go_wp2_with (first
    | ((with_reducible refine gate_dst (N:=17) rfl ?_);refine Kd.N_lit (Kd.slice 37 (Kd.int .u64)) _ 23 ?hg (N':=17) ?hd (xs:=([l1,l3]:List (List Int))) (inner:=[.slice A1 l1.length c1,.slice A3 l3.length c3]) (ok:=fun _ => True) (okp:=fun k_ => k_ < w.heap.size) ?hr ?hp (fun _ _ => trivial) trivial (Below.refl _ _) (Nat.le_refl _) (by simp) ?_;(case hd => rfl);(case hg => rfl);(case hr => first | (go_simp;done) | (go_simp;rfl));(case hp => exact (Reps.one (show Kd.FK (Kd.slice 37 (Kd.int .u64)) _ _ l1 [.slice A1 l1.length c1] from Kd.FK_slice_mk hc1 (Kd.C_F (Kd.heap_int .u64) H1.out)) (Reps.one (show Kd.FK (Kd.slice 37 (Kd.int .u64)) _ _ l3 [.slice A3 l3.length c3] from Kd.FK_slice_mk hc3 (Kd.C_F (Kd.heap_int .u64) H2.out)) (Reps.none _ _))));intro v3 w3 ho3 hb3 hg3 hat3;rw [← HLS.out] at ho3;have HO3:=Aside0.mk ho3;have HB3:=Aside0.mk hb3;clear ho3 hb3 hg3 hat3;obtain ⟨AL,cL,e3⟩:=Kd.N_slice HO3.out;subst e3)
    | ((with_reducible refine gate_callee (f:=47) rfl ?_);refine goesL_ (some 18) rfl rfl Try.func47 (by kernel_rfl) rfl #[.slice AL ls.length cL] rfl (by (try simp only [List.map_toArray,List.map_cons,List.map_nil]);first | done | rfl) ?_;(with_reducible refine (product_long.calls kL _ _ ls false _ (Kd.N_reads' HO3.out).2.2 (Kd.N_reads' HO3.out).2.1 SL.out).mono ?_);rintro e w4 ⟨rfl,⟨nd,rfl⟩⟩;refine ⟨_,rfl,?_⟩;have hmx:=HMX.out)
    | (go_at_call 28;(with_reducible refine (trace_Trace_Span.calls _ _ rfl).mono ?_);rintro e w5 ⟨rfl,hb5⟩;have HB5:=Aside0.mk (below_then (pw_below_drewN HB3.out nd) (pw_below_drewN HB3.out nd).size hb5);clear hb5)
    | ((with_reducible refine gate_builtin (b:=.copy) (xs:=#[.tmp 29,.tmp 30]) rfl ?_);refine wpList_copy_splice rfl (.tmp 29) (.tmp 30) 23 23 rfl 37 Try.underlying23 (by kernel_rfl) (some ⟨w5.heap.size,0,none⟩) A3 n n l3.length c3 rfl rfl w5.heap.size 0 (Zs n).toList 37 (by rw [Array.toArray_toList];exact blk_new _ _) (encs (Value.int .u64) l3) (by rw [show Nat.min l3.length n = l3.length from Nat.min_eq_left hn3];simp [encs]) ?p1 (by simp [encs,Zs_size];omega) ?p2 w.heap.size w (below_alloc HB5.out _) HB5.out.size ?_;(case p1 => exact fun hp => ⟨rfl,C_cells (Kd.C_below H2.out (below_alloc HB5.out _)) (by simpa [encs] using hp)⟩);(case p2 => exact fun v hv => by simp [encs] at hv;obtain ⟨z,_,rfl⟩:=hv;rfl);intro w6 hcp hb6;have HI:=Aside0.mk (show MwI w w5.heap.size n (nW l1) x (nW l3) l3 0 w6 from ⟨by have h:=hcp.out;rw [mw_splice hn3] at h;have h2:=R_blk (ok:=fun _ => True) h HB5.out.size (by rw [mk_length];omega) trivial;rw [mk_length] at h2;exact h2,hb6⟩);clear hcp hb6))
  obtain ⟨g,hg⟩:∃ g,g = w5.heap.size:=⟨_,rfl⟩
  go_loopg [12,33] (n + 1) (fun q v12 v33 wr => ∃ i:Nat,i + q = n + 1∧i≤n∧v33 = .int .i64 i∧v12 = .int .u64 ((mwK (nW l1) x (nW l3) i:Nat):Int)∧Aside0 (MwI w w5.heap.size n (nW l1) x (nW l3) l3 i wr))
  case atStart => exact ⟨0,by omega,by omega,rfl,by rw [mwK_zero];rfl,HI⟩
  case round =>
    clear HI
    obtain ⟨i,hig,hin,rfl,rfl,HI⟩:=hrel
    have HE:=Aside0.mk hig
    cases gk with
    | zero => omega
    | succ k1 =>
      clear hig
      by_cases hlt:i < n
      · have d1:decide ((i:Int) < (n:Int)) = true:=decide_eq_true (by omega)
        have d2:decide (i < n) = true:=decide_eq_true hlt
        obtain ⟨hx1,hf1⟩:=MwI.cell HI.out hlt
        have p1:(0:Int)≤(i:Int):=by omega
        have p2:(i:Int) < (n:Int):=by omega
        have p9:IntKind.i64.wrap ((i:Int) + 1) = ((i + 1:Nat):Int):=by rw [i64_w,w64 (by omega) (by omega)];omega
        have hst:=fun nd => MwI.step HI.out hlt nd
        have HST:=Aside0.mk hst
        obtain ⟨cv,hcv⟩:∃ z:Int,z = at0 l3 i:=⟨_,rfl⟩
        obtain ⟨dv,hdv⟩:∃ z:Int,z = (((nW l1 * x + nW l3) / 18446744073709551616 ^ i % 18446744073709551616:Nat):Int):=⟨_,rfl⟩
        obtain ⟨kv,hkv⟩:∃ z:Int,z = ((mwK (nW l1) x (nW l3) i:Nat):Int):=⟨_,rfl⟩
        obtain ⟨kv2,hkv2⟩:∃ z:Int,z = ((mwK (nW l1) x (nW l3) (i + 1):Nat):Int):=⟨_,rfl⟩
        have hS:=HW.out i
        rw [← hcv,← hdv,← hkv,← hkv2] at hS
        rw [← hcv] at hx1
        have HDV:=Aside0.mk (And.intro hdv hkv2)
        have HKV:=Aside0.mk hkv
        clear hst hcv hdv hkv hkv2
        rw [← HKV.out]
        by_cases hia:i < l1.length
        · have d3:decide ((i:Int) < (l1.length:Int)) = true:=decide_eq_true (by omega)
          have d4:decide (i < l1.length) = true:=decide_eq_true hia
          have p3:(i:Int) < (l1.length:Int):=by omega
          obtain ⟨ad,hA,hxa⟩:=Kd.at_int H1.out (i:Int) (by omega) (by omega)
          rw [rdA,Int.toNat_natCast] at hxa
          subst hA
          have hxb:=(HI.out.2.cell (World.block_lt_of_cell? w _ hxa)).trans hxa
          obtain ⟨av,hav⟩:∃ z:Int,z = at0 l1 i:=⟨_,rfl⟩
          rw [← hav] at hxb hS
          have HS:=Aside0.mk hS
          clear hxa hav hS
          go_wp2_with (go_at_call 48;(with_reducible refine (word_Mul.calls _ _ _ _ _ _ _ HS.out).mono ?_);rintro e w' ⟨rfl,⟨nd,rfl⟩⟩;obtain ⟨W8,hW8,hI8⟩:=HST.out nd;have HI8:=Aside0.mk (show MwI w w5.heap.size n (nW l1) x (nW l3) l3 (i + 1) ((wr.drewN nd).setCell ⟨w5.heap.size,i,none⟩ (.int .u64 dv)) from by rw [HDV.out.1,← hW8];exact hI8);clear hW8 hI8)
          go_roundg k1
          case measure => omega
          case rel => exact ⟨i + 1,by have:=HE.out;omega,by omega,rfl,by rw [HDV.out.2],HI8⟩
        · have d3:decide ((i:Int) < (l1.length:Int)) = false:=decide_eq_false (by omega)
          have d4:decide (i < l1.length) = false:=decide_eq_false hia
          rw [HG.out i (by omega)] at hS
          have HS:=Aside0.mk hS
          clear hS
          go_wp2_with (go_at_call 48;(with_reducible refine (word_Mul.calls _ _ _ _ _ _ _ HS.out).mono ?_);rintro e w' ⟨rfl,⟨nd,rfl⟩⟩;obtain ⟨W8,hW8,hI8⟩:=HST.out nd;have HI8:=Aside0.mk (show MwI w w5.heap.size n (nW l1) x (nW l3) l3 (i + 1) ((wr.drewN nd).setCell ⟨w5.heap.size,i,none⟩ (.int .u64 dv)) from by rw [HDV.out.1,← hW8];exact hI8);clear hW8 hI8)
          go_roundg k1
          case measure => omega
          case rel => exact ⟨i + 1,by have:=HE.out;omega,by omega,rfl,by rw [HDV.out.2],HI8⟩
      · have d1:decide ((i:Int) < (n:Int)) = false:=decide_eq_false (by omega)
        have d2:decide (i < n) = false:=decide_eq_false hlt
        obtain ⟨q1,q2⟩:=HI.out
        rw [show i = n by omega,mw_end] at q1
        have HQ:=Aside0.mk (And.intro q1 q2)
        have hke:=mwK_end (x:=x) HA.out HC.out
        rw [show mwK (nW l1) x (nW l3) i = (nW l1 * x + nW l3) / 18446744073709551616 ^ n by rw [← hke,show i = n by omega]]
        clear q1 q2 hke
        go_wp2
        go_ret2
        exact ⟨_,rfl,HQ.out⟩
end Go.Proofs.Ytalfniohakahlaa.X
