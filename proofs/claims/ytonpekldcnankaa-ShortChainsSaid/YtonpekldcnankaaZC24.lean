/- Texts of the walk and of the plain laws, laid together by a program: Dd. -/
import Derived.Test.YtonpekldcnankaaZC23
set_option maxHeartbeats 4000000
set_option maxRecDepth 100000
namespace Go.Proofs.Ytonpekldcnankaa.X
open Go.RowKit Go.Proofs.YtonpekldcnankaaW.PrintWords Go.Proofs.YtonpekldcnankaaW.PrintLast Go.Proofs.YtonpekldcnankaaW.PrintMore Go.Proofs.Ytonpekldcnankaa.Ma
set_option linter.unusedVariables false
set_option linter.unusedSimpArgs false
def thrownP (e:Int):List PanicEntry:=[{ v:=.iface 148 (.agg #[.int .i64 e]),recovered:=false }]
theorem product_must_ok (e:Int) (w:World):Calls Try.prog 157 #[.bool true,.int .i64 e] w fun E w' => E = .returned (.tuple #[])∧w = w':=by
  go_enter Try.func157,Try.ntmps157
  go_wp2
  go_end0
  exact ⟨rfl,rfl⟩
theorem product_must_no (e:Int) (w:World):Calls Try.prog 157 #[.bool false,.int .i64 e] w fun E w' => E = .panicked (thrownP e)∧w = w':=by
  go_enter Try.func157,Try.ntmps157
  go_wp2
  refine ⟨by rfl,?_⟩
  exact ⟨rfl,rfl⟩
theorem catchP_idle (bp bq br:Nat) (w:World) :
    CallsD Try.prog 156 #[.pointer (some ⟨bp,0,none⟩),.pointer (some ⟨bq,0,none⟩),.pointer (some ⟨br,0,none⟩)] .returning w fun e u' w' => e = .returned (.tuple #[])∧u' = .returning∧w' = w:=by
  refine callsD_of_wpS Try.func156 rfl fun c₀ cs hu => ?_
  apply wpS_seq
  apply wpS_region
  simp [wpOpsS,go_sem,recoverD,hu,Try.ntmps156,Exit.thenS]
  apply wpS_seq
  apply wpS_region
  simp [wpOpsS,go_sem,Exit.thenS]
  refine wpS_cond (t:=false) (by simp [Act.eval,Array.replicate]) ?_
  simp only [Bool.false_eq_true,if_false]
  refine wpS_of_wp (wp_skip ?_)
  cases c₀
  simp_all [bodyPostS,results,Try.results156]
theorem catchP_thrown (bp bq br:Nat) (x y z:Value) (t1 t2 t3:TypeId) (e:Int) (B:Nat) (w:World) (hB:B≤w.heap.size)
    (hp:w.heap[bp]? = some (.cells #[x] t1 (0,0))) (hq:w.heap[bq]? = some (.cells #[y] t2 (0,0))) (hr:w.heap[br]? = some (.cells #[z] t3 (0,0))) (hpq:bp≠bq) (hpr:bp≠br) (hqr:bq≠br) (hBp:B≤bp) (hBq:B≤bq) (hBr:B≤br) :
    CallsD Try.prog 156 #[.pointer (some ⟨bp,0,none⟩),.pointer (some ⟨bq,0,none⟩),.pointer (some ⟨br,0,none⟩)] (.panicking (thrownP e)) w fun e' u' w' =>
      e' = .returned (.tuple #[])∧u' = .panicking [{ v:=.iface 148 (.agg #[.int .i64 e]),recovered:=true }] ∧
        w'.heap[bp]? = some (.cells #[.slice none 0 0] t1 (0,0))∧w'.heap[bq]? = some (.cells #[.slice none 0 0] t2 (0,0))∧w'.heap[br]? = some (.cells #[.int .i64 e] t3 (0,0))∧Below B w w':=by
  refine callsD_of_wpS Try.func156 rfl fun c₀ cs hu => ?_
  unfold thrownP at hu
  have cp:=cell_of_one hp
  have cq:=cell_of_one hq
  have cr:=cell_of_one hr
  have fp:=free_of_one hp
  have fq:=free_of_one hq
  have fr:=free_of_one hr
  have lp:=blk_lt hp
  have lq:=blk_lt hq
  have lr:=blk_lt hr
  apply wpS_seq
  apply wpS_region
  simp [wpOpsS,go_sem,recoverD,hu,Try.ntmps156,Exit.thenS]
  refine wpS_of_wp ?_
  simp [Array.replicate]
  have hta:∀ w:World,(Instr.typeAssert (.iface 148 (.agg #[.int .i64 e])) 20 148 true).run Try.prog w = .ok (.tuple #[.agg #[.int .i64 e],.bool true]) w:=fun _ => by kernel_rfl
  go_wp2
  go_region
  go_wp2
  refine ⟨rfl,.panicking [{ v:=.iface 148 (.agg #[.int .i64 e]),recovered:=true }],rfl,.tuple #[],by simp [results,Try.results156,go_sem],rfl,rfl,?_,?_,?_,?_⟩
  · exact blk_drew (blk_alloc (blk_far (p:=⟨br,0,none⟩) (blk_far (p:=⟨bq,0,none⟩) (one_setCell hp) hpq _) hpr _) _)
  · exact blk_drew (blk_alloc (blk_far (p:=⟨br,0,none⟩) (one_setCell (blk_far (p:=⟨bp,0,none⟩) hq (Ne.symm hpq) _)) hqr _) _)
  · exact blk_drew (blk_alloc (one_setCell (blk_far (p:=⟨bq,0,none⟩) (blk_far (p:=⟨bp,0,none⟩) hr (Ne.symm hpr) _) (Ne.symm hqr) _)) _)
  · exact Below.drew (Below.alloc (Below.setCell (Below.setCell (Below.setCell (Below.refl _ _) hBp _) hBq _) hBr _) (by simpa [World.setCell] using hB) _)
theorem put_at {w:World} {a:Nat} {x u:Value} {t:TypeId} (h:w.heap[a]? = some (.cells #[x] t (0,0))):(w.setCell ⟨a,0,none⟩ u).heap[a]? = some (.cells #[u] t (0,0)):=one_setCell h
theorem put_far {w:World} {a b:Nat} {u:Value} (h:a≠b):(w.setCell ⟨b,0,none⟩ u).heap[a]? = w.heap[a]?:=Below.heap_setCell w ⟨b,0,none⟩ u a h
theorem stored3 {w4:World} {a b c B:Nat} {x y z u v s:Value} {t1 t2 t3:TypeId} (h0:w4.heap[a]? = some (.cells #[x] t1 (0,0))) (h1:w4.heap[b]? = some (.cells #[y] t2 (0,0))) (h2:w4.heap[c]? = some (.cells #[z] t3 (0,0)))
    (hab:a≠b) (hac:a≠c) (hbc:b≠c) (ha:B≤a) (hb:B≤b) (hc:B≤c):∃ W:World,W = (((((w4.setCell ⟨a,0,none⟩ u).setCell ⟨b,0,none⟩ v).setCell ⟨a,0,none⟩ u).setCell ⟨b,0,none⟩ v).setCell ⟨c,0,none⟩ s).drew ∧
    W.heap[a]? = some (.cells #[u] t1 (0,0))∧W.heap[b]? = some (.cells #[v] t2 (0,0))∧W.heap[c]? = some (.cells #[s] t3 (0,0))∧Below B w4 W∧∀ k,k≠a→k≠b→k≠c→W.heap[k]? = w4.heap[k]?:=by
  obtain ⟨w5,e5⟩:∃ w5,w4.setCell ⟨a,0,none⟩ u = w5:=⟨_,rfl⟩
  obtain ⟨w6,e6⟩:∃ w6,w5.setCell ⟨b,0,none⟩ v = w6:=⟨_,rfl⟩
  obtain ⟨w7,e7⟩:∃ w7,w6.setCell ⟨a,0,none⟩ u = w7:=⟨_,rfl⟩
  obtain ⟨w8,e8⟩:∃ w8,w7.setCell ⟨b,0,none⟩ v = w8:=⟨_,rfl⟩
  obtain ⟨w9,e9⟩:∃ w9,w8.setCell ⟨c,0,none⟩ s = w9:=⟨_,rfl⟩
  have a5:=put_at (u:=u) h0
  have b5:=(put_far (u:=u) (Ne.symm hab)).trans h1
  have c5:=(put_far (u:=u) (Ne.symm hac)).trans h2
  rw [e5] at a5 b5 c5
  have a6:=(put_far (u:=v) hab).trans a5
  have b6:=put_at (u:=v) b5
  have c6:=(put_far (u:=v) (Ne.symm hbc)).trans c5
  rw [e6] at a6 b6 c6
  have a7:=put_at (u:=u) a6
  have b7:=(put_far (u:=u) (Ne.symm hab)).trans b6
  have c7:=(put_far (u:=u) (Ne.symm hac)).trans c6
  rw [e7] at a7 b7 c7
  have a8:=(put_far (u:=v) hab).trans a7
  have b8:=put_at (u:=v) b7
  have c8:=(put_far (u:=v) (Ne.symm hbc)).trans c7
  rw [e8] at a8 b8 c8
  have a9:=(put_far (u:=s) hac).trans a8
  have b9:=(put_far (u:=s) hbc).trans b8
  have c9:=put_at (u:=s) c8
  rw [e9] at a9 b9 c9
  have hB:Below B w4 w9:=by
    rw [← e9,← e8,← e7,← e6,← e5]
    exact Below.setCell (Below.setCell (Below.setCell (Below.setCell (Below.setCell (Below.refl _ _) ha _) hb _) ha _) hb _) hc _
  rw [e5,e6,e7,e8,e9]
  refine ⟨w9.drew,rfl,a9,b9,c9,Below.drew hB,fun k ka kb kc => ?_⟩
  show w9.heap[k]? = w4.heap[k]?
  rw [← e9,put_far kc,← e8,put_far kb,← e7,put_far ka,← e6,put_far kb,← e5,put_far ka]
theorem divided_ret (f:FuncId) (args:Array Value) (X Y:List Int) (w:World) (hcf:∀ w:World,(callFunc f args).run Try.prog w = .ok (.enter f args) w)
    (hd:∀ w1:World,Below w.heap.size w w1→Calls Try.prog f args w1 fun e w' => ∃ v0 v1:Value,e = .returned (.tuple #[v0,v1])∧Kd.R (Kd.int .u64) 24 w' w1.heap.size (fun k_ => w1.heap.size≤k_) v0 X∧Kd.R (Kd.int .u64) 24 w' w1.heap.size (fun k_ => w1.heap.size≤k_) v1 Y∧Below w1.heap.size w1 w') :
    Calls Try.prog 112 #[.func (.func f) #[] args] w fun e w' => ∃ v0 v1:Value,e = .returned (.tuple #[v0,v1,.int .i64 0])∧Kd.R (Kd.int .u64) 24 w' w.heap.size (fun k_ => w.heap.size≤k_) v0 X∧Kd.R (Kd.int .u64) 24 w' w.heap.size (fun k_ => w.heap.size≤k_) v1 Y∧Below w.heap.size w w':=by
  have HD:=Aside0.mk hd
  clear hd
  obtain ⟨w3,hw3⟩:∃ w3:World,w3 = ((w.alloc (.cells #[.slice none 0 0] 23)).alloc (.cells #[.slice none 0 0] 23)).alloc (.cells #[.int .i64 0] 29):=⟨_,rfl⟩
  have HB3:Below w.heap.size w w3:=by rw [hw3];exact below_alloc (below_alloc (below_alloc (Below.refl _ _) _) _) _
  have b0:w3.heap[w.heap.size]? = some (.cells #[.slice none 0 0] 23 (0,0)):=by rw [hw3];exact blk_alloc (blk_alloc (blk_new w _) _) _
  have b1:w3.heap[w.heap.size + 1]? = some (.cells #[.slice none 0 0] 23 (0,0)):=by rw [hw3];exact blk_alloc (by have:=blk_new (w.alloc (.cells #[.slice none 0 0] 23)) (.cells #[.slice none 0 0] 23 (0,0));simpa using this) _
  have b2:w3.heap[w.heap.size + 1 + 1]? = some (.cells #[.int .i64 0] 29 (0,0)):=by rw [hw3];have:=blk_new ((w.alloc (.cells #[.slice none 0 0] 23)).alloc (.cells #[.slice none 0 0] 23)) (.cells #[.int .i64 0] 29 (0,0));simpa using this
  have z3:w3.heap.size = w.heap.size + 1 + 1 + 1:=by rw [hw3];simp
  have C3:=Aside0.mk (HD.out w3 HB3)
  have HB3:=Aside0.mk HB3
  have F3:=Aside0.mk (And.intro b0 (And.intro b1 (And.intro b2 z3)))
  clear b0 b1 b2 z3
  go_enter_defers Try.func112,Try.ntmps112
  go_wp2
  rw [← hw3]
  refine C3.out.mono ?_
  rintro e w4 ⟨v0,v1,rfl,hr0,hr1,hb⟩
  obtain ⟨Aq,cq,eq⟩:=Kd.R_slice hr0
  subst eq
  obtain ⟨Ar,cr,er⟩:=Kd.R_slice hr1
  subst er
  have HR0:=Aside0.mk hr0
  have HR1:=Aside0.mk hr1
  obtain ⟨b0,b1,b2,z3⟩:=F3.out
  have HB4:=Aside0.mk hb
  have c0:=blk_below b0 hb
  have c1:=blk_below b1 hb
  have c2:=blk_below b2 hb
  have d0:=cell_of_one c0
  have d1:=cell_of_one c1
  have d2:=cell_of_one c2
  have e0:=free_of_one c0
  have e1:=free_of_one c1
  have e2:=free_of_one c2
  have HC:=Aside0.mk (And.intro c0 (And.intro c1 c2))
  clear c0 c1 c2 b0 b1 b2 z3 hr0 hr1 hb
  go_wp2
  go_region
  go_wp2
  obtain ⟨W,hW,g0,g1,g2,gB,gK⟩:=stored3 (B:=w.heap.size) (u:=.slice Aq X.length cq) (v:=.slice Ar Y.length cr) (s:=.int .i64 0) HC.out.1 HC.out.2.1 HC.out.2.2 (by omega) (by omega) (by omega) (Nat.le_refl _) (by omega) (by omega)
  rw [← hW]
  have z3:=F3.out.2.2.2
  have HRq:=Aside0.mk (Kd.R_mono (Kd.R_lower (Kd.R_step HR0.out (fun k hk _ => gK k (by omega) (by omega) (by omega))) HB3.out.size) (ok':=fun k_ => w.heap.size≤k_) (fun k hk => by omega))
  have HRr:=Aside0.mk (Kd.R_mono (Kd.R_lower (Kd.R_step HR1.out (fun k hk _ => gK k (by omega) (by omega) (by omega))) HB3.out.size) (ok':=fun k_ => w.heap.size≤k_) (fun k hk => by omega))
  have HBW:=Aside0.mk ((below_then HB3.out HB3.out.size HB4.out).trans gB)
  have k0:=cell_of_one g0
  have k1:=cell_of_one g1
  have k2:=cell_of_one g2
  refine leaves_cons (f:=156) (args:=#[.pointer (some ⟨w.heap.size,0,none⟩),.pointer (some ⟨w.heap.size + 1,0,none⟩),.pointer (some ⟨w.heap.size + 1 + 1,0,none⟩)]) (by simp) (by simp [go_sem]) ?_
  refine (catchP_idle w.heap.size (w.heap.size + 1) (w.heap.size + 1 + 1) W).mono ?_
  rintro e u' w'' ⟨rfl,rfl,rfl⟩
  refine ⟨.tuple #[.slice Aq X.length cq,.slice Ar Y.length cr,.int .i64 0],by simp [results,Try.results112,go_sem,k0,k1,k2],_,_,rfl,HRq.out,HRr.out,HBW.out⟩
theorem asked_long (A1:Option Addr) (c1:Nat) (l1:List Int) (A2:Option Addr) (c2:Nat) (l2:List Int) (w:World) (hr1:Kd.C (Kd.int .u64) w A1 l1.length l1) (hc1:l1.length≤c1) (hr2:Kd.C (Kd.int .u64) w A2 l2.length l2) (hc2:l2.length≤c2) (hl:300 < l1.length∨300 < l2.length) :
    Calls Try.prog 114 #[.slice A1 l1.length c1,.slice A2 l2.length c2] w fun E w' => E = .panicked (thrownP 2)∧Below w.heap.size w w':=by
  have H1:=Aside0.mk hr1
  have H2:=Aside0.mk hr2
  clear hr1 hr2
  obtain ⟨ls,hls⟩:∃ ls:List (List Int),ls = [l1,l2]:=⟨_,rfl⟩
  obtain ⟨kL,hkL⟩:=sp_product_long ls (by rw [hls];simp)
  have hfew:(!(fewB 300 ls)) = true:=by rw [hls];simp only [fewB,List.all_cons,List.all_nil,Bool.and_true];rw [Bool.not_eq_true',Bool.and_eq_false_iff,decide_eq_false_iff_not,decide_eq_false_iff_not];omega
  have SL:=Aside0.mk (hkL kL (Nat.le_refl _))
  rw [hfew] at SL
  have HLS:=Aside0.mk hls
  clear hls hkL hfew
  clear hl
  go_enter Try.func114,Try.ntmps114
  go_wp2_with (first | ((with_reducible refine gate_dst (N:=6) rfl ?_);refine Kd.N_lit (Kd.slice 24 (Kd.int .u64)) _ 23 ?hg (N':=6) ?hd (xs:=([l1,l2]:List (List Int))) (inner:=[.slice A1 l1.length c1,.slice A2 l2.length c2]) (ok:=fun _ => True) (okp:=fun k_ => k_ < w.heap.size) ?hr ?hp (fun _ _ => trivial) trivial (Below.refl _ _) (Nat.le_refl _) (by simp) ?_;(case hd => rfl);(case hg => rfl);(case hr => first | (go_simp;done) | (go_simp;rfl));(case hp => exact (Reps.one (show Kd.FK (Kd.slice 24 (Kd.int .u64)) _ _ l1 [.slice A1 l1.length c1] from Kd.FK_slice_mk hc1 (Kd.C_F (Kd.heap_int .u64) H1.out)) (Reps.one (show Kd.FK (Kd.slice 24 (Kd.int .u64)) _ _ l2 [.slice A2 l2.length c2] from Kd.FK_slice_mk hc2 (Kd.C_F (Kd.heap_int .u64) H2.out)) (Reps.none _ _))));intro v3 w3 ho3 hb3 hg3 hat3;rw [← HLS.out] at ho3;have HO3:=Aside0.mk ho3;have HB3:=Aside0.mk hb3;clear ho3 hb3 hg3 hat3;obtain ⟨A3,c3,e3⟩:=Kd.N_slice HO3.out;subst e3) | ((with_reducible refine gate_callee (f:=158) rfl ?_);refine goesL_ (some 7) rfl rfl Try.func158 (by kernel_rfl) rfl #[.slice A3 ls.length c3] rfl (by (try simp only [List.map_toArray,List.map_cons,List.map_nil]);first | done | rfl) ?_;(with_reducible refine (product_long.calls kL _ _ ls true _ (Kd.N_reads' HO3.out).2.2 (Kd.N_reads' HO3.out).2.1 SL.out).mono ?_);rintro e w4 ⟨rfl,⟨nd,rfl⟩⟩;refine ⟨_,rfl,?_⟩) | (go_at_call 157;(with_reducible refine (product_must_no 2 _).mono ?_);rintro e w5 ⟨rfl,rfl⟩))
  refine ⟨by rfl,?_⟩
  exact ⟨rfl,pw_below_drewN HB3.out nd⟩
theorem asked_zero (A1:Option Addr) (c1:Nat) (l1:List Int) (A2:Option Addr) (c2:Nat) (l2:List Int) (w:World) (hr1:Kd.C (Kd.int .u64) w A1 l1.length l1) (hc1:l1.length≤c1) (hr2:Kd.C (Kd.int .u64) w A2 l2.length l2) (hc2:l2.length≤c2) (h2:Wd l2) (hl1:l1.length≤300) (hl2:l2.length≤300) (hz:nW l2 = 0) :
    Calls Try.prog 114 #[.slice A1 l1.length c1,.slice A2 l2.length c2] w fun E w' => E = .panicked (thrownP 1)∧Below w.heap.size w w':=by
  have H1:=Aside0.mk hr1
  have H2:=Aside0.mk hr2
  clear hr1 hr2
  obtain ⟨ls,hls⟩:∃ ls:List (List Int),ls = [l1,l2]:=⟨_,rfl⟩
  obtain ⟨kL,hkL⟩:=sp_product_long ls (by rw [hls];simp)
  have hfew:(!(fewB 300 ls)) = false:=by rw [hls];simp only [fewB,List.all_cons,List.all_nil,Bool.and_true];rw [Bool.not_eq_false',Bool.and_eq_true_iff,decide_eq_true_iff,decide_eq_true_iff];omega
  have SL:=Aside0.mk (hkL kL (Nat.le_refl _))
  rw [hfew] at SL
  have HLS:=Aside0.mk hls
  clear hls hkL hfew
  obtain ⟨kB,hkB⟩:=sp_nat_Bits h2 (by omega)
  have SB:=Aside0.mk (hkB kB (Nat.le_refl _))
  clear hkB
  rw [hz,bl_zero] at SB
  clear hz h2
  go_enter Try.func114,Try.ntmps114
  go_wp2_with (first | ((with_reducible refine gate_dst (N:=6) rfl ?_);refine Kd.N_lit (Kd.slice 24 (Kd.int .u64)) _ 23 ?hg (N':=6) ?hd (xs:=([l1,l2]:List (List Int))) (inner:=[.slice A1 l1.length c1,.slice A2 l2.length c2]) (ok:=fun _ => True) (okp:=fun k_ => k_ < w.heap.size) ?hr ?hp (fun _ _ => trivial) trivial (Below.refl _ _) (Nat.le_refl _) (by simp) ?_;(case hd => rfl);(case hg => rfl);(case hr => first | (go_simp;done) | (go_simp;rfl));(case hp => exact (Reps.one (show Kd.FK (Kd.slice 24 (Kd.int .u64)) _ _ l1 [.slice A1 l1.length c1] from Kd.FK_slice_mk hc1 (Kd.C_F (Kd.heap_int .u64) H1.out)) (Reps.one (show Kd.FK (Kd.slice 24 (Kd.int .u64)) _ _ l2 [.slice A2 l2.length c2] from Kd.FK_slice_mk hc2 (Kd.C_F (Kd.heap_int .u64) H2.out)) (Reps.none _ _))));intro v3 w3 ho3 hb3 hg3 hat3;rw [← HLS.out] at ho3;have HO3:=Aside0.mk ho3;have HB3:=Aside0.mk hb3;clear ho3 hb3 hg3 hat3;obtain ⟨A3,c3,e3⟩:=Kd.N_slice HO3.out;subst e3) | ((with_reducible refine gate_callee (f:=158) rfl ?_);refine goesL_ (some 7) rfl rfl Try.func158 (by kernel_rfl) rfl #[.slice A3 ls.length c3] rfl (by (try simp only [List.map_toArray,List.map_cons,List.map_nil]);first | done | rfl) ?_;(with_reducible refine (product_long.calls kL _ _ ls false _ (Kd.N_reads' HO3.out).2.2 (Kd.N_reads' HO3.out).2.1 SL.out).mono ?_);rintro e w4 ⟨rfl,⟨nd,rfl⟩⟩;refine ⟨_,rfl,?_⟩) | (go_at_call 157;(with_reducible refine (product_must_ok 2 _).mono ?_);rintro e w5 ⟨rfl,rfl⟩) | (go_at_call 94;(with_reducible refine (nat_Bits.calls kB _ _ l2 _ _ (Kd.C_below H2.out (pw_below_drewN HB3.out nd)) hc2 SB.out).mono ?_);rintro e w6 ⟨rfl,⟨nd2,rfl⟩⟩) | (go_at_call 157;(with_reducible refine (product_must_no 1 _).mono ?_);rintro e w5 ⟨rfl,rfl⟩))
  refine ⟨by rfl,?_⟩
  exact ⟨rfl,pw_below_drewN HB3.out _⟩
theorem asked_ok (A1:Option Addr) (c1:Nat) (l1:List Int) (A2:Option Addr) (c2:Nat) (l2:List Int) (w:World) (hr1:Kd.C (Kd.int .u64) w A1 l1.length l1) (hc1:l1.length≤c1) (hr2:Kd.C (Kd.int .u64) w A2 l2.length l2) (hc2:l2.length≤c2) (h2:Wd l2) (hl1:l1.length≤300) (hl2:l2.length≤300) (hz:nW l2≠0) :
    Calls Try.prog 114 #[.slice A1 l1.length c1,.slice A2 l2.length c2] w fun E w' => E = .returned (.tuple #[])∧Below w.heap.size w w':=by
  have H1:=Aside0.mk hr1
  have H2:=Aside0.mk hr2
  clear hr1 hr2
  obtain ⟨ls,hls⟩:∃ ls:List (List Int),ls = [l1,l2]:=⟨_,rfl⟩
  obtain ⟨kL,hkL⟩:=sp_product_long ls (by rw [hls];simp)
  have hfew:(!(fewB 300 ls)) = false:=by rw [hls];simp only [fewB,List.all_cons,List.all_nil,Bool.and_true];rw [Bool.not_eq_false',Bool.and_eq_true_iff,decide_eq_true_iff,decide_eq_true_iff];omega
  have SL:=Aside0.mk (hkL kL (Nat.le_refl _))
  rw [hfew] at SL
  have HLS:=Aside0.mk hls
  clear hls hkL hfew
  obtain ⟨kB,hkB⟩:=sp_nat_Bits h2 (by omega)
  have SB:=Aside0.mk (hkB kB (Nat.le_refl _))
  clear hkB
  obtain ⟨b,hb⟩:∃ b:Nat,b = bl (nW l2):=⟨_,rfl⟩
  have hbp:=bl_pos hz
  rw [← hb] at SB hbp
  have d1:decide ((0:Int) < (b:Int)) = true:=decide_eq_true (by omega)
  have d2:decide ((b:Int) > 0) = true:=decide_eq_true (by omega)
  clear hz h2 hb
  go_enter Try.func114,Try.ntmps114
  go_wp2_with (first | ((with_reducible refine gate_dst (N:=6) rfl ?_);refine Kd.N_lit (Kd.slice 24 (Kd.int .u64)) _ 23 ?hg (N':=6) ?hd (xs:=([l1,l2]:List (List Int))) (inner:=[.slice A1 l1.length c1,.slice A2 l2.length c2]) (ok:=fun _ => True) (okp:=fun k_ => k_ < w.heap.size) ?hr ?hp (fun _ _ => trivial) trivial (Below.refl _ _) (Nat.le_refl _) (by simp) ?_;(case hd => rfl);(case hg => rfl);(case hr => first | (go_simp;done) | (go_simp;rfl));(case hp => exact (Reps.one (show Kd.FK (Kd.slice 24 (Kd.int .u64)) _ _ l1 [.slice A1 l1.length c1] from Kd.FK_slice_mk hc1 (Kd.C_F (Kd.heap_int .u64) H1.out)) (Reps.one (show Kd.FK (Kd.slice 24 (Kd.int .u64)) _ _ l2 [.slice A2 l2.length c2] from Kd.FK_slice_mk hc2 (Kd.C_F (Kd.heap_int .u64) H2.out)) (Reps.none _ _))));intro v3 w3 ho3 hb3 hg3 hat3;rw [← HLS.out] at ho3;have HO3:=Aside0.mk ho3;have HB3:=Aside0.mk hb3;clear ho3 hb3 hg3 hat3;obtain ⟨A3,c3,e3⟩:=Kd.N_slice HO3.out;subst e3) | ((with_reducible refine gate_callee (f:=158) rfl ?_);refine goesL_ (some 7) rfl rfl Try.func158 (by kernel_rfl) rfl #[.slice A3 ls.length c3] rfl (by (try simp only [List.map_toArray,List.map_cons,List.map_nil]);first | done | rfl) ?_;(with_reducible refine (product_long.calls kL _ _ ls false _ (Kd.N_reads' HO3.out).2.2 (Kd.N_reads' HO3.out).2.1 SL.out).mono ?_);rintro e w4 ⟨rfl,⟨nd,rfl⟩⟩;refine ⟨_,rfl,?_⟩) | (go_at_call 157;(with_reducible refine (product_must_ok 2 _).mono ?_);rintro e w5 ⟨rfl,rfl⟩) | (go_at_call 94;(with_reducible refine (nat_Bits.calls kB _ _ l2 _ _ (Kd.C_below H2.out (pw_below_drewN HB3.out nd)) hc2 SB.out).mono ?_);rintro e w6 ⟨rfl,⟨nd2,rfl⟩⟩) | (go_at_call 157;(with_reducible refine (product_must_ok 1 _).mono ?_);rintro e w5 ⟨rfl,rfl⟩))
  go_end0
  exact ⟨rfl,pw_below_drewN HB3.out _⟩
theorem divided_throw (f:FuncId) (args:Array Value) (E:Int) (w:World) (hcf:∀ w:World,(callFunc f args).run Try.prog w = .ok (.enter f args) w)
    (hd:∀ w1:World,Below w.heap.size w w1→Calls Try.prog f args w1 fun e w' => e = .panicked (thrownP E)∧Below w1.heap.size w1 w') :
    Calls Try.prog 112 #[.func (.func f) #[] args] w fun e w' => e = .returned (.tuple #[.slice none 0 0,.slice none 0 0,.int .i64 E])∧Below w.heap.size w w':=by
  have HD:=Aside0.mk hd
  clear hd
  obtain ⟨w3,hw3⟩:∃ w3:World,w3 = ((w.alloc (.cells #[.slice none 0 0] 23)).alloc (.cells #[.slice none 0 0] 23)).alloc (.cells #[.int .i64 0] 29):=⟨_,rfl⟩
  have HB3:Below w.heap.size w w3:=by rw [hw3];exact below_alloc (below_alloc (below_alloc (Below.refl _ _) _) _) _
  have b0:w3.heap[w.heap.size]? = some (.cells #[.slice none 0 0] 23 (0,0)):=by rw [hw3];exact blk_alloc (blk_alloc (blk_new w _) _) _
  have b1:w3.heap[w.heap.size + 1]? = some (.cells #[.slice none 0 0] 23 (0,0)):=by rw [hw3];exact blk_alloc (by have:=blk_new (w.alloc (.cells #[.slice none 0 0] 23)) (.cells #[.slice none 0 0] 23 (0,0));simpa using this) _
  have b2:w3.heap[w.heap.size + 1 + 1]? = some (.cells #[.int .i64 0] 29 (0,0)):=by rw [hw3];have:=blk_new ((w.alloc (.cells #[.slice none 0 0] 23)).alloc (.cells #[.slice none 0 0] 23)) (.cells #[.int .i64 0] 29 (0,0));simpa using this
  have z3:w3.heap.size = w.heap.size + 1 + 1 + 1:=by rw [hw3];simp
  have C3:=Aside0.mk (HD.out w3 HB3)
  have HB3:=Aside0.mk HB3
  have F3:=Aside0.mk (And.intro b0 (And.intro b1 (And.intro b2 z3)))
  clear b0 b1 b2 z3
  go_enter_defers Try.func112,Try.ntmps112
  go_wp2
  rw [← hw3]
  refine C3.out.mono ?_
  rintro e w4 ⟨rfl,hb⟩
  obtain ⟨b0,b1,b2,z3⟩:=F3.out
  have HB4:=Aside0.mk hb
  have c0:=blk_below b0 hb
  have c1:=blk_below b1 hb
  have c2:=blk_below b2 hb
  have hsz:=HB3.out.size
  have hsz2:=hb.size
  refine leaves_cons (f:=156) (args:=#[.pointer (some ⟨w.heap.size,0,none⟩),.pointer (some ⟨w.heap.size + 1,0,none⟩),.pointer (some ⟨w.heap.size + 1 + 1,0,none⟩)]) (by simp) (by simp [go_sem]) ?_
  refine (catchP_thrown w.heap.size (w.heap.size + 1) (w.heap.size + 1 + 1) _ _ _ _ _ _ E w.heap.size w4 (by omega) c0 c1 c2 (by omega) (by omega) (by omega) (Nat.le_refl _) (by omega) (by omega)).mono ?_
  rintro e u' w'' ⟨rfl,rfl,g0,g1,g2,gB⟩
  have k0:=cell_of_one g0
  have k1:=cell_of_one g1
  have k2:=cell_of_one g2
  refine ⟨.tuple #[.slice none 0 0,.slice none 0 0,.int .i64 E],by simp [results,Try.results112,go_sem,k0,k1,k2],rfl,(below_then HB3.out HB3.out.size HB4.out).trans gB⟩
end Go.Proofs.Ytonpekldcnankaa.X
