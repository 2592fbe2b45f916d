/- Texts of the walk and of the plain laws, laid together by a program: St, Su, X13. -/
import Derived.Test.YtonpekldcnankaaZC29
set_option maxHeartbeats 4000000
set_option maxRecDepth 100000
section
namespace Go.Proofs.Ytonpekldcnankaa.X
open Go.RowKit Go.Proofs.YtonpekldcnankaaW.PrintWords Go.Proofs.YtonpekldcnankaaW.PrintLast Go.Proofs.YtonpekldcnankaaW.PrintMore Go.Proofs.Ytonpekldcnankaa.Ma
set_option linter.unusedVariables false
set_option linter.unusedSimpArgs false
theorem clone_ok (A0:Option Addr) (c0:Nat) (l0:List Int) (w:World) (hr0:Kd.C (Kd.int .u64) w A0 l0.length l0) (hc0:l0.length≤c0) (hl:l0.length≤1000000) (hp:0 < l0.length) :
    Calls Try.prog 153 #[.slice A0 l0.length c0] w fun e w' => ∃ v:Value,e = .returned v∧Kd.R (Kd.int .u64) 24 w' w.heap.size (fun _ => True) v l0∧Below w.heap.size w w':=by
  obtain ⟨ad,hA,_⟩:=Kd.at_int hr0 ((0:Nat):Int) (by omega) (by omega)
  subst hA
  have heq:∀ W:World,Sem.run Try.prog (binOp BinOp.eql 23 (.slice (some ad) l0.length c0) (.slice none 0 0)) W = .ok (.bool false) W:=fun W => by rfl
  have HR:=Aside0.mk hr0
  clear hr0
  go_enter Try.func153,Try.ntmps153
  go_wp2_with (first
    | ((with_reducible refine gate_dst (N:=5) rfl ?_);refine Kd.R_lit (Kd.int .u64) _ 24 ?hg (N:=5) ?hd (xs:=([]:List Int)) (inner:=[]) (ok:=fun _ => True) (okp:=fun _ => True) ?hr ?hp (fun _ hk => hk) trivial (Below.refl _ _) (Nat.le_refl _) (by simp) ?_;(case hd => rfl);(case hg => rfl);(case hr => first | (go_simp;done) | (go_simp;rfl));(case hp => exact Reps.none _ _);intro v4 w4 ho4 hb4 hg4 hn4;clear hg4 hn4;have HO4:=Aside0.mk ho4;have HB4:=Aside0.mk hb4;clear ho4 hb4;obtain ⟨A4,c4,e9⟩:=Kd.R_slice HO4.out;subst e9)
    | ((with_reducible refine gate_builtin (b:=.append) (xs:=#[.tmp 5,.tmp 6]) rfl ?_);at_builtin;refine Kd.R_append_rows (Kd.int .u64) (w0:=w) w.heap.size rfl (.tmp 5) (.tmp 6) 23 24 (.int .u64 0) 8 rfl Try.underlying23 info_u64 rfl (by decide) (by omega) (.slice A4 ([]:List Int).length c4) [] l0 (some ad) l0.length c0 (fun _ => True) (fun _ => False) rfl rfl ?aO ?aR (fun _ _ h => h) (fun _ h => h.elim) (fun _ _ => trivial) ?aB ?aS ?aL ?_;(case aO => exact HO4.out);(case aR => exact Kd.C_below HR.out HB4.out);(case aB => exact HB4.out);(case aS => exact HB4.out.size);(case aL => simp;omega);intro v5 w5 ho5 hb5 hg5 hat5;have HU5:=Aside0.mk ho5;have HB5:=Aside0.mk hb5;clear ho5 hb5 hg5 hat5))
  go_ret
  exact ⟨_,rfl,HU5.out,HB5.out⟩
def thrownM (e:Int):List PanicEntry:=[{ v:=.iface 163 (.agg #[.int .i64 e]),recovered:=false }]
theorem mont_must_ok (e:Int) (w:World):Calls Try.prog 152 #[.bool true,.int .i64 e] w fun E w' => E = .returned (.tuple #[])∧w = w':=by
  go_enter Try.func152,Try.ntmps152
  go_wp2
  go_end0
  exact ⟨rfl,rfl⟩
theorem mont_must_no (e:Int) (w:World):Calls Try.prog 152 #[.bool false,.int .i64 e] w fun E w' => E = .panicked (thrownM e)∧w = w':=by
  go_enter Try.func152,Try.ntmps152
  go_wp2
  refine ⟨by rfl,?_⟩
  exact ⟨rfl,rfl⟩
theorem catchM_idle (br:Nat) (w:World) :
    CallsD Try.prog 176 #[.pointer (some ⟨br,0,none⟩)] .returning w fun e u' w' => e = .returned (.tuple #[])∧u' = .returning∧w' = w:=by
  refine callsD_of_wpS Try.func176 rfl fun c₀ cs hu => ?_
  apply wpS_seq
  apply wpS_region
  simp [wpOpsS,go_sem,recoverD,hu,Try.ntmps176,Exit.thenS]
  apply wpS_seq
  apply wpS_region
  simp [wpOpsS,go_sem,Exit.thenS]
  refine wpS_cond (t:=false) (by simp [Act.eval,Array.replicate]) ?_
  simp only [Bool.false_eq_true,if_false]
  refine wpS_of_wp (wp_skip ?_)
  cases c₀
  simp_all [bodyPostS,results,Try.results176]
theorem catchM_thrown (br:Nat) (z:Value) (t3:TypeId) (e:Int) (B:Nat) (w:World) (hB:B≤w.heap.size)
    (hr:w.heap[br]? = some (.cells #[z] t3 (0,0))) (hBr:B≤br) :
    CallsD Try.prog 176 #[.pointer (some ⟨br,0,none⟩)] (.panicking (thrownM e)) w fun e' u' w' =>
      e' = .returned (.tuple #[])∧u' = .panicking [{ v:=.iface 163 (.agg #[.int .i64 e]),recovered:=true }] ∧
        w'.heap[br]? = some (.cells #[.int .i64 e] t3 (0,0))∧Below B w w':=by
  refine callsD_of_wpS Try.func176 rfl fun c₀ cs hu => ?_
  unfold thrownM at hu
  have cr:=cell_of_one hr
  have fr:=free_of_one hr
  have lr:=blk_lt hr
  apply wpS_seq
  apply wpS_region
  simp [wpOpsS,go_sem,recoverD,hu,Try.ntmps176,Exit.thenS]
  refine wpS_of_wp ?_
  simp [Array.replicate]
  have hta:∀ w:World,(Instr.typeAssert (.iface 163 (.agg #[.int .i64 e])) 20 163 true).run Try.prog w = .ok (.tuple #[.agg #[.int .i64 e],.bool true]) w:=fun _ => by kernel_rfl
  go_wp2
  refine ⟨rfl,.panicking [{ v:=.iface 163 (.agg #[.int .i64 e]),recovered:=true }],rfl,.tuple #[],by simp [results,Try.results176,go_sem],rfl,rfl,?_,?_⟩
  · exact blk_alloc (one_setCell hr) _
  · exact Below.alloc (Below.setCell (Below.refl _ _) hBr _) (by simpa [World.setCell] using hB) _
theorem guarded_ret (f:FuncId) (args:Array Value) (Q:World→Prop) (w:World) (hcf:∀ w:World,(callFunc f args).run Try.prog w = .ok (.enter f args) w)
    (hd:Calls Try.prog f args (w.alloc (.cells #[.int .i64 0] 29)) fun e w' => e = .returned (.tuple #[])∧Q w'∧w'.heap[w.heap.size]? = some (.cells #[.int .i64 0] 29 (0,0))) :
    Calls Try.prog 150 #[.func (.func f) #[] args] w fun e w' => e = .returned (.int .i64 0)∧∃ w4,Q w4∧w' = w4.setCell ⟨w.heap.size,0,none⟩ (.int .i64 0):=by
  have HD:=Aside0.mk hd
  clear hd
  go_enter_defers Try.func150,Try.ntmps150
  go_wp2
  refine HD.out.mono ?_
  rintro e w4 ⟨rfl,hq,hb⟩
  have d2:=cell_of_one hb
  have e2:=free_of_one hb
  have g2:=one_setCell (u:=.int .i64 0) hb
  have k2:=cell_of_one g2
  have HQ:=Aside0.mk hq
  clear hq
  go_wp2
  refine leaves_cons (f:=176) (args:=#[.pointer (some ⟨w.heap.size,0,none⟩)]) (by simp) (by simp [go_sem]) ?_
  refine (catchM_idle w.heap.size _).mono ?_
  rintro e u' w'' ⟨rfl,rfl,rfl⟩
  refine ⟨.int .i64 0,by simp [results,Try.results150,go_sem,k2],rfl,_,HQ.out,rfl⟩
theorem guarded_throw (f:FuncId) (args:Array Value) (E:Int) (w:World) (hcf:∀ w:World,(callFunc f args).run Try.prog w = .ok (.enter f args) w)
    (hd:∀ w1:World,Below w.heap.size w w1→Calls Try.prog f args w1 fun e w' => e = .panicked (thrownM E)∧Below w1.heap.size w1 w') :
    Calls Try.prog 150 #[.func (.func f) #[] args] w fun e w' => e = .returned (.int .i64 E)∧Below w.heap.size w w':=by
  obtain ⟨w3,hw3⟩:∃ w3:World,w3 = w.alloc (.cells #[.int .i64 0] 29):=⟨_,rfl⟩
  have hB3:Below w.heap.size w w3:=by rw [hw3];exact below_alloc (Below.refl _ _) _
  have b2:w3.heap[w.heap.size]? = some (.cells #[.int .i64 0] 29 (0,0)):=by rw [hw3];exact blk_new w _
  have HD:=Aside0.mk (hd w3 hB3)
  have HB3:=Aside0.mk hB3
  have F3:=Aside0.mk b2
  clear b2 hd hB3
  go_enter_defers Try.func150,Try.ntmps150
  go_wp2
  rw [← hw3]
  refine HD.out.mono ?_
  rintro e w4 ⟨rfl,hb⟩
  have c2:=blk_below F3.out hb
  have hsz:=HB3.out.size
  have hsz2:=hb.size
  refine leaves_cons (f:=176) (args:=#[.pointer (some ⟨w.heap.size,0,none⟩)]) (by simp) (by simp [go_sem]) ?_
  refine (catchM_thrown w.heap.size _ _ E w.heap.size w4 (by omega) c2 (Nat.le_refl _)).mono ?_
  rintro e u' w'' ⟨rfl,rfl,g2,gB⟩
  have k2:=cell_of_one g2
  refine ⟨.int .i64 E,by simp [results,Try.results150,go_sem,k2],rfl,(below_then HB3.out HB3.out.size hb).trans gB⟩
theorem st_top {l:List Int} (h:Wd l) {n:Nat} (hn:0 < n) (hl:nW l < 18446744073709551616 ^ n):at0 l (n - 1) = ((nW l / 18446744073709551616 ^ (n - 1):Nat):Int)∧nW l / 18446744073709551616 ^ (n - 1) < 18446744073709551616:=by
  have e:18446744073709551616 ^ n = 18446744073709551616 * 18446744073709551616 ^ (n - 1):=by rw [← Nat.pow_succ',show (n - 1).succ = n by omega]
  have h1:nW l / 18446744073709551616 ^ (n - 1) < 18446744073709551616:=by rw [Nat.div_lt_iff_lt_mul (Nat.pow_pos (by decide)),← e];exact hl
  refine ⟨?_,h1⟩
  have:=at0_num (B:=18446744073709551616) (by decide) h (n - 1)
  rw [show num 18446744073709551616 l = nW l from rfl,Nat.mod_eq_of_lt h1] at this
  exact this
theorem st_less {l:List Int} (h:Wd l) {n:Nat} (hn:0 < n) (hl:nW l < 18446744073709551616 ^ n) (hz:at0 l (n - 1) = 0):nW l < 18446744073709551616 ^ (n - 1):=by
  obtain ⟨h1,_⟩:=st_top h hn hl
  rw [hz] at h1
  rcases Nat.lt_or_ge (nW l) (18446744073709551616 ^ (n - 1)) with h2 | h2
  · exact h2
  · have:=Nat.div_pos h2 (Nat.pow_pos (by decide))
    omega
theorem st_done {l:List Int} (h:Wd l) {n:Nat} (hl:nW l < 18446744073709551616 ^ n) (hz:n = 0∨at0 l (n - 1)≠0):n = wlen (nW l):=by
  rcases Nat.eq_zero_or_pos n with h0 | h0
  · subst h0
    rw [Nat.pow_zero] at hl
    rw [show nW l = 0 by omega,wlen_zero]
  · obtain ⟨h1,_⟩:=st_top h h0 hl
    have h2:0 < nW l / 18446744073709551616 ^ (n - 1):=by
      rcases Nat.eq_zero_or_pos (nW l / 18446744073709551616 ^ (n - 1)) with h3 | h3
      · rw [h3] at h1
        omega
      · exact h3
    have h3:18446744073709551616 ^ (n - 1)≤nW l:=by
      rcases Nat.lt_or_ge (nW l) (18446744073709551616 ^ (n - 1)) with h4 | h4
      · rw [Nat.div_eq_of_lt h4] at h2
        omega
      · exact h4
    have:=wlen_eq (n:=n - 1) h3 (by rw [show n - 1 + 1 = n by omega];exact hl)
    omega
def KpX (w w':World) (g:Nat):Prop:=w.heap.size≤w'.heap.size∧∀ k,k < w.heap.size→k≠g→w'.heap[k]? = w.heap[k]?
theorem KpX.of {w w':World} {g:Nat} (h:Below w.heap.size w w'):KpX w w' g:=⟨h.size,fun k hk _ => h.block k hk⟩
theorem KpX.put {w w':World} {g:Nat} (h:KpX w w' g) (i:Nat) (u:Value):KpX w (w'.setCell ⟨g,i,none⟩ u) g:=⟨by simpa [World.setCell] using h.1,fun k hk hne => (Below.heap_setCell w' ⟨g,i,none⟩ u k hne).trans (h.2 k hk hne)⟩
theorem KpX.then {w w' w2:World} {g:Nat} (h:KpX w w' g) (hb:Below w'.heap.size w' w2):KpX w w2 g:=⟨Nat.le_trans h.1 hb.size,fun k hk hne => (hb.block k (Nat.lt_of_lt_of_le hk h.1)).trans (h.2 k hk hne)⟩
theorem st_take {l:List Int} (h:Wd l) {n:Nat} (hn:n≤l.length):l.take n = wds n (nW l):=by
  have e:wds l.length (nW l) = l:=dgs_num h
  have:=lq_take (nW l) hn
  rw [e] at this
  exact this
def StP (A0:Option Addr) (l0:List Int) (bx:Nat) (x:Int) (w0 w:World) (e:Ending) (w':World):Prop :=
  (130 < wlen (nW l0)∧e = .panicked (thrownM 2)∧Below w.heap.size w w')∨(wlen (nW l0)≤130∧nW l0≤1∧e = .panicked (thrownM 1)∧Below w.heap.size w w') ∨
  (wlen (nW l0)≤130∧1 < nW l0∧nW l0 % 2 = 0∧e = .panicked (thrownM 60)∧Below w.heap.size w w') ∨
  (wlen (nW l0)≤130∧1 < nW l0∧nW l0 % 2 = 1∧e = .returned (.tuple #[])∧∃ vM vR:Value,w'.heap[bx]? = some (.cells #[vM,.int .u64 (IntKind.u64.wrap (-x)),vR] 26 (0,0)) ∧
    Kd.R (Kd.int .u64) 24 w' w.heap.size (fun k_ => w.heap.size≤k_∧some k_≠vR.ownBlock) vM (wds (wlen (nW l0)) (nW l0))∧Kd.R (Kd.int .u64) 24 w' w.heap.size (fun k_ => w.heap.size≤k_∧some k_≠vM.ownBlock) vR (wds (wlen (nW l0)) (18446744073709551616 ^ (2 * wlen (nW l0)) % nW l0)) ∧
    KpX w w' bx∧Below w0.heap.size w0 w')
theorem st_unit (n:Nat):(List.replicate (n + 1) (0:Int)).set n 1 = wds (n + 1) (18446744073709551616 ^ n):=by
  have h:=dgs_set (B:=18446744073709551616) (18446744073709551616 ^ n) (Nat.lt_succ_self n) (1:Int) (by rw [Nat.div_self (Nat.pow_pos (by decide))];rfl)
  have e:dgs 18446744073709551616 n (18446744073709551616 ^ n) = List.replicate n 0:=by
    have:=dgs_mod (B:=18446744073709551616) n (18446744073709551616 ^ n)
    rw [Nat.mod_self,dgs_zero] at this
    exact this.symm
  rw [e,Nat.sub_self,List.replicate_zero,List.append_nil,show n.succ - n = 1 by omega] at h
  rw [List.replicate_succ']
  exact h
theorem st_power {n M n2:Nat} (hM:M≠0) (hMn:M < 18446744073709551616 ^ n) (hn:n≤300) (h2:n2 + 1≤300):mont_power.f (wds n M) (n2:Int) = some (wds n (18446744073709551616 ^ n2 % M)):=by
  have e1:wrap64 ((n2:Int) + 1) = ((n2 + 1:Nat):Int):=by rw [w64 (by omega) (by omega)];omega
  unfold mont_power.f
  rw [e1,if_pos (by omega),Int.toNat_natCast,if_pos (by omega),Option.bind_some,if_pos (by omega),List.length_replicate,if_pos (by omega),Int.toNat_natCast,st_unit]
  have e2:nW (wds (n2 + 1) (18446744073709551616 ^ n2)) = 18446744073709551616 ^ n2:=nW_wds (Nat.pow_lt_pow_right (by decide) (by omega))
  have e3:nW (wds n M) = M:=nW_wds hMn
  unfold product_Quick.f
  rw [show num 18446744073709551616 (wds (n2 + 1) (18446744073709551616 ^ n2)) = _ from e2,show num 18446744073709551616 (wds n M) = _ from e3,dgs_length,dgs_length,if_pos ⟨⟨wds_dg.2 (wds_Wd _ _),wds_dg.2 (wds_Wd _ _)⟩,by omega,by omega⟩,if_neg (by omega),if_neg hM]
  rfl
def StI (w0 w:World) (bx n M gM cM:Nat) (K:Int) (v:Value) (wx:World):Prop :=
  w.heap.size≤gM∧wx.heap[bx]? = some (.cells #[.slice (some ⟨gM,0,none⟩) n cM,.int .u64 K,v] 26 (0,0))∧Kd.R (Kd.int .u64) 24 wx w.heap.size (fun k => k = gM) (.slice (some ⟨gM,0,none⟩) n cM) (wds n M)∧KpX w wx bx∧Below w0.heap.size w0 wx
theorem StI.of {w0 w w5:World} {bx n M g5 c5:Nat} {K:Int} (hB:Below w0.heap.size w0 w) (h5:Below w.heap.size w w5) (hbx:w.heap[bx]? = some (.cells #[.slice none 0 0,.int .u64 0,.slice none 0 0] 26 (0,0))) (h0:w0.heap.size≤bx) (hg:w.heap.size≤g5)
    (hR:Kd.R (Kd.int .u64) 24 w5 w.heap.size (fun k => k = g5) (.slice (some ⟨g5,0,none⟩) n c5) (wds n M)) (nd:Nat) :
    StI w0 w bx n M g5 c5 K (.slice none 0 0) ((((w5.drewN nd).setCell ⟨bx,0,none⟩ (.slice (some ⟨g5,0,none⟩) n c5)).setCell ⟨bx,1,none⟩ (.int .u64 K)).setCell ⟨bx,2,none⟩ (.slice none 0 0)):=by
  have hlt:=blk_lt hbx
  have h5b:Below w.heap.size w (w5.drewN nd):=pw_below_drewN h5 nd
  have hne:∀ i,∀ k,k = g5→k≠(⟨bx,i,none⟩:Addr).block:=fun i k hk => by show k≠bx;omega
  refine ⟨hg,?_,Kd.R_far (Kd.R_far (Kd.R_far (Kd.R_drewN hR nd) (hne 0) _) (hne 1) _) (hne 2) _,((((KpX.of h5b).put 0 _).put 1 _).put 2 _),below_set (below_set (below_set (below_then hB hB.size h5b) h0) h0) h0⟩
  exact blk_put (blk_put (blk_put (blk_below hbx h5b) 0 _ rfl) 1 _ rfl) 2 _ rfl
theorem StI.done {w0 w wx w8:World} {bx n M gM cM g8 c8:Nat} {K:Int} {RR:List Int} (h:StI w0 w bx n M gM cM K (.slice none 0 0) wx) (hR:Kd.R (Kd.int .u64) 24 w8 wx.heap.size (fun k => k = g8) (.slice (some ⟨g8,0,none⟩) n c8) RR) (hg:wx.heap.size≤g8) (hB:Below wx.heap.size wx w8) (h0:w0.heap.size≤bx) (hlt:bx < w.heap.size) :
    ∃ vM vR:Value,(w8.setCell ⟨bx,2,none⟩ (.slice (some ⟨g8,0,none⟩) n c8)).heap[bx]? = some (.cells #[vM,.int .u64 K,vR] 26 (0,0)) ∧
    Kd.R (Kd.int .u64) 24 (w8.setCell ⟨bx,2,none⟩ (.slice (some ⟨g8,0,none⟩) n c8)) w.heap.size (fun k_ => w.heap.size≤k_∧some k_≠vR.ownBlock) vM (wds n M)∧Kd.R (Kd.int .u64) 24 (w8.setCell ⟨bx,2,none⟩ (.slice (some ⟨g8,0,none⟩) n c8)) w.heap.size (fun k_ => w.heap.size≤k_∧some k_≠vM.ownBlock) vR RR ∧
    KpX w (w8.setCell ⟨bx,2,none⟩ (.slice (some ⟨g8,0,none⟩) n c8)) bx∧Below w0.heap.size w0 (w8.setCell ⟨bx,2,none⟩ (.slice (some ⟨g8,0,none⟩) n c8)):=by
  obtain ⟨a1,a2,a3,a4,a5⟩:=h
  have hgl:gM < wx.heap.size:=Kd.R_lt a3 gM rfl
  have hsz:=a4.1
  refine ⟨_,_,blk_put (blk_below a2 hB) 2 _ rfl,Kd.R_mono (Kd.R_far (Kd.R_below a3 hB) (fun k hk => by show k≠bx;omega) _) (fun k hk => ⟨by omega,by simp [Value.ownBlock];omega⟩),Kd.R_mono (Kd.R_far (Kd.R_lower hR hsz) (fun k hk => by show k≠bx;omega) _) (fun k hk => ⟨by omega,by simp [Value.ownBlock];omega⟩),(a4.then hB).put 2 _,below_set (below_then a5 a5.size hB) h0⟩
theorem Setup1_ok (A0:Option Addr) (c0:Nat) (l0:List Int) (ba bx:Nat) (t1:TypeId) (kI:Nat) (x:Int) (w0 w:World) (hB:Below w0.heap.size w0 w)
    (hba:w.heap[ba]? = some (.cells #[.slice A0 l0.length c0] t1 (0,0))) (hbx:w.heap[bx]? = some (.cells #[.slice none 0 0,.int .u64 0,.slice none 0 0] 26 (0,0))) (hne:ba≠bx) (hbx0:w0.heap.size≤bx)
    (hr0:Kd.C (Kd.int .u64) w0 A0 l0.length l0) (hc0:l0.length≤c0) (h0:Wd l0) (hl0:l0.length≤1000) (hI:wlen (nW l0)≤130→1 < nW l0→nW l0 % 2 = 1→word_Inverse.f kI (at0 l0 0) = some x) :
    Calls Try.prog 151 #[.pointer (some ⟨ba,0,none⟩),.pointer (some ⟨bx,0,none⟩)] w (StP A0 l0 bx x w0 w):=by
  have hu59:=Try.underlying26
  have HBX:=Aside0.mk (fun (W:World) (hW:Below w.heap.size w W) => box_stay hba hW)
  have HBM:=Aside0.mk hbx
  have x1:=HBX.out w (Below.refl _ _)
  have H0:=Aside0.mk hr0
  have HB:=Aside0.mk hB
  have HW:=Aside0.mk (And.intro h0 (And.intro hI (And.intro hne hbx0)))
  have HN0:=Aside0.mk (nW_lt h0)
  clear hba hbx hr0 hB h0 hI hne hbx0
  go_enter Try.func151,Try.ntmps151
  go_upto_region 1 with (fail)
  go_loopg [2] (l0.length + 1) (fun q v2 wr => ∃ n:Nat,v2 = .int .i64 (n:Int)∧Aside0 (n < q)∧n≤l0.length∧Aside0 (nW l0 < 18446744073709551616 ^ n)∧Aside0 (Below w.heap.size w wr))
  case atStart => exact ⟨l0.length,rfl,⟨by omega⟩,Nat.le_refl _,HN0,⟨Below.refl _ _⟩⟩
  case round =>
    clear x1
    obtain ⟨n,rfl,hq,hnl,hnM,HBr⟩:=hrel
    have x1:=HBX.out _ HBr.out
    obtain ⟨ko,hko⟩:∃ ko,gk = ko + 1:=⟨gk - 1,by have:=hq.out;omega⟩
    subst hko
    by_cases hz:0 < n∧at0 l0 (n - 1) = 0
    · obtain ⟨hn0,hz⟩:=hz
      obtain ⟨n1,hn1⟩:∃ n1:Nat,n = n1 + 1:=⟨n - 1,by omega⟩
      subst hn1
      have hm:=st_less HW.out.1 hn0 hnM.out hz
      rw [Nat.add_sub_cancel] at hz hm
      obtain ⟨ad,hA,hx⟩:=Kd.at_int H0.out (n1:Int) (by omega) (by omega)
      rw [rdA,Int.toNat_natCast,hz] at hx
      subst hA
      have hx':=(((below_then HB.out HB.out.size HBr.out).cell (World.block_lt_of_cell? w0 _ hx))).trans hx
      have HM:=Aside0.mk hm
      have d1:decide (((n1 + 1:Nat):Int) > (0:Int)) = true:=decide_eq_true (by omega)
      have p1:IntKind.i64.wrap (((n1 + 1:Nat):Int) - 1) = (n1:Int):=by rw [i64_w,w64 (by omega) (by omega)];omega
      obtain ⟨n2,hn2⟩:∃ n2:Nat,n2 = n1 + 1:=⟨_,rfl⟩
      rw [← hn2] at d1 p1
      have d1b:decide ((0:Int) < (n2:Int)) = true:=decide_eq_true (by omega)
      have d1c:decide (0 < n2) = true:=decide_eq_true (by omega)
      have HN2:=Aside0.mk hn2
      have q1:n1 < l0.length:=by omega
      have q2:(n1:Int) < (l0.length:Int):=by omega
      clear hm hx hz hn0 hnM
      rw [← HN2.out]
      clear hn2
      go_wp2
      go_roundg ko
      case measure => omega
      case rel => exact ⟨n1,rfl,⟨by have:=hq.out;have:=HN2.out;omega⟩,by omega,HM,HBr⟩
    · have hW:=st_done HW.out.1 hnM.out (by rcases Nat.eq_zero_or_pos n with h | h;exact .inl h;exact .inr (fun h2 => hz ⟨h,h2⟩))
      clear hz hq
      rcases Nat.eq_zero_or_pos n with hn0 | hn0
      · subst hn0
        have hM0:nW l0 = 0:=by have:=hnM.out;rw [Nat.pow_zero] at this;omega
        have HM0:=Aside0.mk hM0
        clear hM0 hnM
        have HW2:=Aside0.mk hW
        clear hW
        go_wp2_with (first
          | (go_at_call 152;(with_reducible refine (mont_must_ok 2 _).mono ?_);rintro e w5 ⟨rfl,rfl⟩)
          | (go_at_call 152;(with_reducible refine (mont_must_no 1 _).mono ?_);rintro e w5 ⟨rfl,rfl⟩))
        refine ⟨by rfl,?_⟩
        exact .inr (.inl ⟨by rw [← HW2.out];omega,by rw [HM0.out];omega,rfl,HBr.out⟩)
      · obtain ⟨hat,htl⟩:=st_top HW.out.1 hn0 hnM.out
        obtain ⟨tw,htw⟩:∃ tw:Nat,tw = nW l0 / 18446744073709551616 ^ (n - 1):=⟨_,rfl⟩
        rw [← htw] at hat htl
        obtain ⟨n1,hn1⟩:∃ n1:Nat,n1 = n - 1:=⟨_,rfl⟩
        have p1:IntKind.i64.wrap ((n:Int) - 1) = (n1:Int):=by rw [i64_w,w64 (by omega) (by omega)];omega
        rw [← hn1] at hat
        have htw0:¬ (tw = 0):=by
          intro h
          have h3:=wlen_ge (x:=nW l0) (by intro h4;rw [h4,wlen_zero] at hW;omega)
          rw [← hW] at h3
          have:=Nat.div_pos h3 (Nat.pow_pos (by decide))
          omega
        obtain ⟨ad,hA,hx⟩:=Kd.at_int H0.out (n1:Int) (by omega) (by omega)
        rw [rdA,Int.toNat_natCast,hat] at hx
        obtain ⟨ad2,hA2,hy⟩:=Kd.at_int H0.out ((0:Nat):Int) (by omega) (by omega)
        rw [rdA,Int.toNat_natCast] at hy
        rw [hA] at hA2
        cases hA2
        subst hA
        have hB0r:=below_then HB.out HB.out.size HBr.out
        have hx':=(hB0r.cell (World.block_lt_of_cell? w0 _ hx)).trans hx
        have hy':=(hB0r.cell (World.block_lt_of_cell? w0 _ hy)).trans hy
        have d1:decide ((n:Int) > (0:Int)) = true:=decide_eq_true (by omega)
        have d1b:decide ((0:Int) < (n:Int)) = true:=decide_eq_true (by omega)
        have d1c:decide (0 < n) = true:=decide_eq_true hn0
        have d2:((tw:Int) == 0) = false:=beq_eq_false_iff_ne.2 (by omega)
        have d2b:decide ((tw:Int) = 0) = false:=decide_eq_false (by omega)
        have d2c:decide (tw = 0) = false:=decide_eq_false htw0
        have q1:n1 < l0.length:=by omega
        have q2:(n1:Int) < (l0.length:Int):=by omega
        have HN1:=Aside0.mk (show n1 + 1 = n by omega)
        have HWn:=Aside0.mk hW
        clear hx htw htw0 hn1 hat htl hnM hB0r hW
        obtain ⟨m0,hm0⟩:∃ m0:Nat,m0 = nW l0 % 18446744073709551616:=⟨_,rfl⟩
        have hat0:at0 l0 0 = (m0:Int):=by
          have:=at0_num (B:=18446744073709551616) (by decide) HW.out.1 0
          rw [Nat.pow_zero,Nat.div_one,show num 18446744073709551616 l0 = nW l0 from rfl,← hm0] at this
          exact this
        rw [hat0] at hy' hy
        have HY0:=Aside0.mk hy
        clear hy
        have hy2:wr.cell? ad = some (.int .u64 (m0:Int)):=hy'
        have hm1:n = 1→m0 = nW l0:=by
          intro h
          rw [hm0]
          refine Nat.mod_eq_of_lt ?_
          have:=wlen_lt (nW l0)
          rw [← HWn.out,h,Nat.pow_one] at this
          exact this
        have hm2:1 < n→18446744073709551616≤nW l0:=by
          intro h
          have h3:=wlen_ge (x:=nW l0) (by intro h4;have:=HWn.out;rw [h4,wlen_zero] at this;omega)
          rw [← HWn.out] at h3
          exact Nat.le_trans (by rw [← Nat.pow_one 18446744073709551616];exact Nat.pow_le_pow_right (by decide) (by omega)) h3
        have HM0:=Aside0.mk (show at0 l0 0 = (m0:Int)∧m0 = nW l0 % 18446744073709551616∧(n = 1→m0 = nW l0)∧(1 < n→18446744073709551616≤nW l0) from ⟨hat0,hm0,hm1,hm2⟩)
        clear hm0 hat0 hm1 hm2
        have hl0p:0 < l0.length:=by omega
        have hl0i:(0:Int) < (l0.length:Int):=by omega
        by_cases h130:n≤130
        · have e1:decide ((n:Int)≤130) = true:=decide_eq_true (by omega)
          have e1b:decide (n≤130) = true:=decide_eq_true h130
          by_cases hM1:nW l0≤1
          · have hn1:¬ (1 < n):=by intro h;have:=HM0.out.2.2.2 h;omega
            have e2:decide ((n:Int) > 1) = false:=decide_eq_false (by omega)
            have e2b:decide ((1:Int) < (n:Int)) = false:=decide_eq_false (by omega)
            have e2c:decide (1 < n) = false:=decide_eq_false hn1
            have e3:((n:Int) == 1) = true:=beq_iff_eq.2 (by omega)
            have e3b:decide ((n:Int) = 1) = true:=decide_eq_true (by omega)
            have e3c:decide (n = 1) = true:=decide_eq_true (by omega)
            have hmm:=HM0.out.2.2.1 (by omega)
            have e4:decide ((m0:Int) > 1) = false:=decide_eq_false (by omega)
            have e4b:decide ((1:Int) < (m0:Int)) = false:=decide_eq_false (by omega)
            have e4c:decide (1 < m0) = false:=decide_eq_false (by omega)
            have HM1:=Aside0.mk hM1
            clear hM1 hn1 hmm
            go_wp2_with (first
              | (go_at_call 152;(with_reducible refine (mont_must_ok 2 _).mono ?_);rintro e w5 ⟨rfl,rfl⟩)
              | (go_at_call 152;(with_reducible refine (mont_must_no 1 _).mono ?_);rintro e w5 ⟨rfl,rfl⟩))
            refine ⟨by rfl,?_⟩
            exact .inr (.inl ⟨by rw [← HWn.out];exact h130,HM1.out,rfl,HBr.out⟩)
          · go_upto_region 4 with (go_at_call 152;(with_reducible refine (mont_must_ok 2 _).mono ?_);rintro e w5 ⟨rfl,rfl⟩)
            go_cut [] (fun wx => Aside0 (Below w.heap.size w wx))
            case first =>
              by_cases hn1:1 < n
              · have e2:decide ((n:Int) > 1) = true:=decide_eq_true (by omega)
                have e2b:decide ((1:Int) < (n:Int)) = true:=decide_eq_true (by omega)
                have e2c:decide (1 < n) = true:=decide_eq_true hn1
                go_wp2_with (go_at_call 152;(with_reducible refine (mont_must_ok 1 _).mono ?_);rintro e w5 ⟨rfl,rfl⟩)
                go_meet
                exact HBr
              · have e2:decide ((n:Int) > 1) = false:=decide_eq_false (by omega)
                have e2b:decide ((1:Int) < (n:Int)) = false:=decide_eq_false (by omega)
                have e2c:decide (1 < n) = false:=decide_eq_false hn1
                have e3:((n:Int) == 1) = true:=beq_iff_eq.2 (by omega)
                have e3b:decide ((n:Int) = 1) = true:=decide_eq_true (by omega)
                have e3c:decide (n = 1) = true:=decide_eq_true (by omega)
                have hmm:=HM0.out.2.2.1 (by omega)
                have e4:decide ((m0:Int) > 1) = true:=decide_eq_true (by omega)
                have e4b:decide ((1:Int) < (m0:Int)) = true:=decide_eq_true (by omega)
                have e4c:decide (1 < m0) = true:=decide_eq_true (by omega)
                clear hn1 hmm
                go_wp2_with (go_at_call 152;(with_reducible refine (mont_must_ok 1 _).mono ?_);rintro e w5 ⟨rfl,rfl⟩)
                go_meet
                exact HBr
            case rest =>
              clear x1 hx' hy' hy2 HBr
              have HBr:=hcut
              clear hcut
              have x1:=HBX.out _ HBr.out
              have hB0r:=below_then HB.out HB.out.size HBr.out
              have hy:=(hB0r.cell (World.block_lt_of_cell? w0 _ HY0.out)).trans HY0.out
              have hy2:wc.cell? ad = some (.int .u64 (m0:Int)):=hy
              clear hB0r
              have hm0l:m0 < 18446744073709551616:=by rw [HM0.out.2.1];exact Nat.mod_lt _ (by decide)
              have hb1:=b_and1 (a:=(m0:Int)) (by omega) (by omega)
              have hpar:m0 % 2 = nW l0 % 2:=by rw [HM0.out.2.1];omega
              by_cases hod:nW l0 % 2 = 0
              · have hm2:(m0:Int) % 2 = 0:=by omega
                rw [hm2] at hb1
                have HO:=Aside0.mk (And.intro hM1 hod)
                clear hm2 hpar hod hM1 hm0l
                go_wp2_with (go_at_call 152;(with_reducible refine (mont_must_no 60 _).mono ?_);rintro e w5 ⟨rfl,rfl⟩)
                refine ⟨by rfl,?_⟩
                exact .inr (.inr (.inl ⟨by rw [← HWn.out];exact h130,by have:=HO.out.1;omega,HO.out.2,rfl,HBr.out⟩))
              · have hm2:(m0:Int) % 2 = 1:=by omega
                rw [hm2] at hb1
                have HO:=Aside0.mk (show 1 < nW l0∧nW l0 % 2 = 1 from ⟨by omega,by omega⟩)
                clear hm2 hpar hod hM1 hm0l
                go_upto_region 6 with (go_at_call 152;(with_reducible refine (mont_must_ok 60 _).mono ?_);rintro e w5 ⟨rfl,rfl⟩)
                have htl:(l0.take n).length = n:=by rw [List.length_take];omega
                have HC:=Aside0.mk (show ∀ W:World,Below w0.heap.size w0 W→Calls Try.prog 153 #[.slice (some ad) n c0] W fun e w' => ∃ g c,e = .returned (.slice (some ⟨g,0,none⟩) n c)∧Kd.R (Kd.int .u64) 24 w' W.heap.size (fun k => k = g) (.slice (some ⟨g,0,none⟩) n c) (wds n (nW l0))∧W.heap.size≤g∧Below W.heap.size W w' from by
                  intro W hW
                  have hh:=clone_ok (some ad) c0 (l0.take n) W (Kd.C_take (Kd.C_below H0.out hW) hnl) (by omega) (by omega) (by omega)
                  rw [htl,st_take HW.out.1 hnl] at hh
                  refine hh.mono ?_
                  rintro e w' ⟨v,rfl,h1,h2⟩
                  obtain ⟨g,c,e9,hg1,hg2,hg3⟩:=Kd.R_form h1 (by rw [dgs_length];omega)
                  rw [dgs_length] at e9
                  subst e9
                  exact ⟨g,c,rfl,Kd.R_mono (Kd.R_tight rfl h1) (fun k hk => by simpa [Value.ownBlock] using hk),hg1,h2⟩)
                have HV:=Aside0.mk (fun W:World => word_Inverse.calls kI (m0:Int) x W (by rw [← HM0.out.1];exact HW.out.2.1 (by rw [← HWn.out];exact h130) HO.out.1 HO.out.2))
                clear htl
                have hnc:n≤c0:=by omega
                have hnci:(n:Int)≤(c0:Int):=by omega
                go_cut [] (fun wx => ∃ gM cM,Aside0 (StI w0 w bx n (nW l0) gM cM (IntKind.u64.wrap (-x)) (.slice none 0 0) wx))
                case first =>
                  go_region_with (first
                    | (go_at_call 153;(with_reducible refine (HC.out _ (below_then HB.out HB.out.size (Below.drew HBr.out))).mono ?_);rintro e w5 ⟨g5,c5,rfl,h5,h6,h7⟩;have HB5:=Aside0.mk (below_then (Below.drew HBr.out) (Below.drew HBr.out).size h7);have x1':=HBX.out _ HB5.out;have hy':=((below_then HB.out HB.out.size HB5.out).cell (World.block_lt_of_cell? w0 _ HY0.out)).trans HY0.out;have hy2':w5.cell? ad = some (.int .u64 (m0:Int)):=hy';have HM5:=Aside0.mk (blk_below HBM.out HB5.out);have z0:=blk_cell HM5.out 0;have z1:=blk_cell HM5.out 1;have z2:=blk_cell HM5.out 2;have f0:=blk_frozen HM5.out 0;have f1:=blk_frozen HM5.out 1;have f2:=blk_frozen HM5.out 2;have H5:=Aside0.mk (And.intro h5 (And.intro h6 h7));clear h5 h6 h7)
                    | (go_at_call 154;(with_reducible refine (HV.out _).mono ?_);rintro e w6 ⟨rfl,⟨nd6,rfl⟩⟩))
                  all_goals (go_wp2;go_meet;exact ⟨_,_,⟨StI.of HB.out HB5.out HBM.out HW.out.2.2.2 (Nat.le_trans (Below.drew HBr.out).size H5.out.2.1) (Kd.R_lower H5.out.1 (Below.drew HBr.out).size) _⟩⟩)
                case rest =>
                  obtain ⟨gM,cM,hcut⟩:=hcut
                  clear x1 hy hy2
                  obtain ⟨K,hK⟩:∃ K:Int,K = IntKind.u64.wrap (-x):=⟨_,rfl⟩
                  rw [← hK] at hcut
                  have HK:=Aside0.mk hK
                  clear hK
                  have z0:=(blk_cell hcut.out.2.1 0).trans rfl
                  have z1:=(blk_cell hcut.out.2.1 1).trans rfl
                  have z2:=(blk_cell hcut.out.2.1 2).trans rfl
                  obtain ⟨n2,hn2⟩:∃ n2:Nat,n2 = 2 * n:=⟨_,rfl⟩
                  have p5:IntKind.i64.wrap (2 * (n:Int)) = (n2:Int):=by rw [i64_w,w64 (by omega) (by omega)];omega
                  have HN2:=Aside0.mk hn2
                  clear hn2
                  have hMn:nW l0 < 18446744073709551616 ^ n:=by rw [HWn.out];exact wlen_lt _
                  have HP:=Aside0.mk (show ∀ (W:World) (b:Nat) (ok:Nat→Prop),Kd.R (Kd.int .u64) 24 W b ok (.slice (some ⟨gM,0,none⟩) n cM) (wds n (nW l0))→Calls Try.prog 155 #[.slice (some ⟨gM,0,none⟩) n cM,.int .i64 (n2:Int)] W fun e w' => ∃ g c,e = .returned (.slice (some ⟨g,0,none⟩) n c)∧Kd.R (Kd.int .u64) 24 w' W.heap.size (fun k => k = g) (.slice (some ⟨g,0,none⟩) n c) (wds n (18446744073709551616 ^ (2 * n) % nW l0))∧W.heap.size≤g∧Below W.heap.size W w' from by
                    intro W b ok hR
                    obtain ⟨hR1,hR2,hR3⟩:=Kd.R_reads' hR
                    have hh:=mont_power.calls (some ⟨gM,0,none⟩) cM (wds n (nW l0)) (n2:Int) _ W hR3 (by rw [dgs_length];exact hR2) (st_power (by have:=HO.out.1;omega) hMn (by omega) (by have:=HN2.out;omega))
                    rw [dgs_length] at hh
                    refine hh.mono ?_
                    rintro e w' ⟨v,rfl,h1,h2⟩
                    obtain ⟨g,c,e9,hg1,hg2,hg3⟩:=Kd.R_form h1 (by rw [dgs_length];omega)
                    rw [dgs_length] at e9
                    subst e9
                    refine ⟨g,c,rfl,?_,hg1,h2⟩
                    rw [← HN2.out]
                    exact Kd.R_mono (Kd.R_tight rfl h1) (fun k hk => by simpa [Value.ownBlock] using hk))
                  have HRM:=Aside0.mk (show _ from hcut.out.2.2.1)
                  have HCB:=Aside0.mk (show _ from hcut.out.2.1)
                  clear hMn
                  go_wp2_with (go_at_call 155;go_loud ((with_reducible refine (HP.out _ _ _ HRM.out).mono ?_);rintro e w8 ⟨g8,c8,rfl,h5,h6,h7⟩;have HM8:=Aside0.mk (blk_below HCB.out h7);have z0':=(blk_cell HM8.out 0).trans rfl;have z1':=(blk_cell HM8.out 1).trans rfl;have z2':=(blk_cell HM8.out 2).trans rfl;have f2':=blk_frozen HM8.out 2;have H8:=Aside0.mk (And.intro h5 (And.intro h6 h7));clear h5 h6 h7))
                  go_end0
                  refine .inr (.inr (.inr ⟨by rw [← HWn.out];exact h130,HO.out.1,HO.out.2,rfl,?_⟩))
                  rw [← HK.out,← HWn.out]
                  exact StI.done hcut.out H8.out.1 H8.out.2.1 H8.out.2.2 HW.out.2.2.2 (blk_lt HBM.out)
        · have e1:decide ((n:Int)≤130) = false:=decide_eq_false (by omega)
          have e1b:decide (n≤130) = false:=decide_eq_false h130
          go_wp2_with (go_at_call 152;(with_reducible refine (mont_must_no 2 _).mono ?_);rintro e w5 ⟨rfl,rfl⟩)
          refine ⟨by rfl,?_⟩
          exact .inl ⟨by rw [← HWn.out];omega,rfl,HBr.out⟩
end Go.Proofs.Ytonpekldcnankaa.X
end
section
namespace Go.Proofs.Ytonpekldcnankaa.X
open Go.RowKit Go.Proofs.YtonpekldcnankaaW.PrintWords Go.Proofs.YtonpekldcnankaaW.PrintLast Go.Proofs.YtonpekldcnankaaW.PrintMore Go.Proofs.Ytonpekldcnankaa.Ma
set_option linter.unusedVariables false
set_option linter.unusedSimpArgs false
theorem st_boxes (w:World) (a:Value) (cs:Array Value) (t1 t2:TypeId) (W:World) (hW:W = (w.alloc (.cells #[a] t1)).alloc (.cells cs t2)) :
    W.heap[w.heap.size]? = some (.cells #[a] t1 (0,0))∧W.heap[w.heap.size + 1]? = some (.cells cs t2 (0,0))∧Below w.heap.size w W∧W.heap.size = w.heap.size + 2:=by
  rw [hW]
  refine ⟨blk_alloc (blk_new w _) _,?_,below_alloc (below_alloc (Below.refl _ _) _) _,by simp⟩
  have:=blk_new (w.alloc (.cells #[a] t1)) (.cells cs t2 (0,0))
  simpa using this
theorem mont_Setup_bad (A0:Option Addr) (c0:Nat) (l0:List Int) (E:Int) (w:World) (hr0:Kd.C (Kd.int .u64) w A0 l0.length l0) (hc0:l0.length≤c0) (h0:dg 18446744073709551616 l0) (hl0:l0.length≤1000)
    (hE:(E = 2∧130 < wlen (num 18446744073709551616 l0))∨(E = 1∧wlen (num 18446744073709551616 l0)≤130∧num 18446744073709551616 l0≤1)∨(E = 60∧wlen (num 18446744073709551616 l0)≤130∧1 < num 18446744073709551616 l0∧num 18446744073709551616 l0 % 2 = 0)) :
    Calls Try.prog 110 #[.slice A0 l0.length c0] w fun e w' => ∃ v0_ v2_:Value,e = .returned (.tuple #[.agg #[v0_,.int .u64 0,v2_],.int .i64 E])∧Kd.R (Kd.int .u64) 24 w' w.heap.size (fun k_ => some k_≠(v2_:Value).ownBlock) v0_ []∧Kd.R (Kd.int .u64) 24 w' w.heap.size (fun k_ => some k_≠(v0_:Value).ownBlock) v2_ []∧Below w.heap.size w w':=by
  obtain ⟨w0,hw0⟩:∃ w0:World,w0 = (w.alloc (.cells #[.slice A0 l0.length c0] 23)).alloc (.cells #[.slice none 0 0,.int .u64 0,.slice none 0 0] 26):=⟨_,rfl⟩
  obtain ⟨b1,b2,hB,hsz⟩:=st_boxes w _ _ _ _ w0 hw0
  have hu59:=Try.underlying26
  have HD:∀ w1:World,Below w0.heap.size w0 w1→Calls Try.prog 151 #[.pointer (some ⟨w.heap.size,0,none⟩),.pointer (some ⟨w.heap.size + 1,0,none⟩)] w1 fun e w' => e = .panicked (thrownM E)∧Below w1.heap.size w1 w':=by
    intro w1 hw1
    refine (Setup1_ok A0 c0 l0 w.heap.size (w.heap.size + 1) _ 0 0 w w1 (below_then hB hB.size hw1) (blk_below b1 hw1) (blk_below b2 hw1) (by omega) (by omega) hr0 hc0 h0 hl0 (fun g1 g2 g3 => ?_)).mono ?_
    · exfalso
      change wlen (num 18446744073709551616 l0)≤130 at g1
      change 1 < num 18446744073709551616 l0 at g2
      change num 18446744073709551616 l0 % 2 = 1 at g3
      omega
    · intro e w' h
      rcases h with ⟨g1,rfl,g2⟩ | ⟨g1,g2,rfl,g3⟩ | ⟨g1,g2,g3,rfl,g4⟩ | ⟨g1,g2,g3,_⟩
      · change 130 < wlen (num 18446744073709551616 l0) at g1
        have:E = 2:=by omega
        subst this
        exact ⟨rfl,g2⟩
      · change wlen (num 18446744073709551616 l0)≤130 at g1
        change num 18446744073709551616 l0≤1 at g2
        have:E = 1:=by omega
        subst this
        exact ⟨rfl,g3⟩
      · change wlen (num 18446744073709551616 l0)≤130 at g1
        change 1 < num 18446744073709551616 l0 at g2
        change num 18446744073709551616 l0 % 2 = 0 at g3
        have:E = 60:=by omega
        subst this
        exact ⟨rfl,g4⟩
      · exfalso
        change wlen (num 18446744073709551616 l0)≤130 at g1
        change 1 < num 18446744073709551616 l0 at g2
        change num 18446744073709551616 l0 % 2 = 1 at g3
        omega
  have HG:=Aside0.mk (guarded_throw 151 _ E w0 (fun _ => rfl) HD)
  have HB:=Aside0.mk (And.intro hB (And.intro b2 hsz))
  have hE0:E = 2∨E = 1∨E = 60:=by omega
  clear HD b1 b2 hB hsz hr0 h0 hE
  have e1:(E == 0) = false:=beq_eq_false_iff_ne.2 (by omega)
  have e2:decide (E = 0) = false:=decide_eq_false (by omega)
  have e3:(!(E == 0)) = true:=by rw [e1];rfl
  have e4:(E != 0) = true:=by unfold bne;rw [e1];rfl
  clear hE0
  go_enter Try.func110,Try.ntmps110
  go_wp2_with fail
  rw [← hw0]
  refine HG.out.mono ?_
  rintro e w4 ⟨rfl,h7⟩
  have HM4:=Aside0.mk (blk_below HB.out.2.1 h7)
  have z0:=(blk_cell HM4.out 0).trans rfl
  have z1:=(blk_cell HM4.out 1).trans rfl
  have z2:=(blk_cell HM4.out 2).trans rfl
  have f0:=blk_frozen HM4.out 0
  have f1:=blk_frozen HM4.out 1
  have f2:=blk_frozen HM4.out 2
  have HB4:=Aside0.mk (below_then HB.out.1 HB.out.1.size h7)
  clear h7
  go_wp2
  refine bodyPost_ret (results_ct rfl _ _ (w.heap.size + 1) 26 #[.slice none 0 0,.int .u64 0,.slice none 0 0] (0,0) _ rfl (blk_put (blk_put (blk_put HM4.out 0 _ rfl) 1 _ rfl) 2 _ rfl) Try.underlying26 rfl (by kernel_rfl)) rfl ?_
  exact ⟨_,_,rfl,Kd.R_nil _ _ _ _ _,Kd.R_nil _ _ _ _ _,below_set (below_set (below_set HB4.out (by omega)) (by omega)) (by omega)⟩
theorem mont_Setup_ok (kI:Nat) (A0:Option Addr) (c0:Nat) (l0:List Int) (x:Int) (w:World) (hr0:Kd.C (Kd.int .u64) w A0 l0.length l0) (hc0:l0.length≤c0) (h0:dg 18446744073709551616 l0) (hl0:l0.length≤1000)
    (h1:wlen (num 18446744073709551616 l0)≤130) (h2:1 < num 18446744073709551616 l0) (h3:num 18446744073709551616 l0 % 2 = 1) (hI:word_Inverse.f kI (at0 l0 0) = some x) :
    Calls Try.prog 110 #[.slice A0 l0.length c0] w fun e w' => ∃ v0_ v2_:Value,e = .returned (.tuple #[.agg #[v0_,.int .u64 (IntKind.u64.wrap (-x)),v2_],.int .i64 0])∧Kd.R (Kd.int .u64) 24 w' w.heap.size (fun k_ => some k_≠(v2_:Value).ownBlock) v0_ (dgs 18446744073709551616 (wlen (num 18446744073709551616 l0)) (num 18446744073709551616 l0)) ∧
      Kd.R (Kd.int .u64) 24 w' w.heap.size (fun k_ => some k_≠(v0_:Value).ownBlock) v2_ (dgs 18446744073709551616 (wlen (num 18446744073709551616 l0)) (18446744073709551616 ^ (2 * wlen (num 18446744073709551616 l0)) % num 18446744073709551616 l0))∧Below w.heap.size w w':=by
  obtain ⟨w0,hw0⟩:∃ w0:World,w0 = (w.alloc (.cells #[.slice A0 l0.length c0] 23)).alloc (.cells #[.slice none 0 0,.int .u64 0,.slice none 0 0] 26):=⟨_,rfl⟩
  obtain ⟨b1,b2,hB,hsz⟩:=st_boxes w _ _ _ _ w0 hw0
  have hu59:=Try.underlying26
  obtain ⟨w1,hw1⟩:∃ w1:World,w1 = w0.alloc (.cells #[.int .i64 0] 29):=⟨_,rfl⟩
  have hB1:Below w0.heap.size w0 w1:=by rw [hw1];exact below_alloc (Below.refl _ _) _
  have b3:w1.heap[w0.heap.size]? = some (.cells #[.int .i64 0] 29 (0,0)):=by rw [hw1];exact blk_new w0 _
  have hsz1:w1.heap.size = w0.heap.size + 1:=by rw [hw1];simp
  have HD:Calls Try.prog 151 #[.pointer (some ⟨w.heap.size,0,none⟩),.pointer (some ⟨w.heap.size + 1,0,none⟩)] w1 fun e w' => e = .returned (.tuple #[])∧(∃ vM vR:Value,w'.heap[w.heap.size + 1]? = some (.cells #[vM,.int .u64 (IntKind.u64.wrap (-x)),vR] 26 (0,0)) ∧
      Kd.R (Kd.int .u64) 24 w' w1.heap.size (fun k_ => w1.heap.size≤k_∧some k_≠vR.ownBlock) vM (wds (wlen (nW l0)) (nW l0))∧Kd.R (Kd.int .u64) 24 w' w1.heap.size (fun k_ => w1.heap.size≤k_∧some k_≠vM.ownBlock) vR (wds (wlen (nW l0)) (18446744073709551616 ^ (2 * wlen (nW l0)) % nW l0))∧Below w.heap.size w w')∧w'.heap[w0.heap.size]? = some (.cells #[.int .i64 0] 29 (0,0)):=by
    refine (Setup1_ok A0 c0 l0 w.heap.size (w.heap.size + 1) _ kI x w w1 (below_then hB hB.size hB1) (blk_below b1 hB1) (blk_below b2 hB1) (by omega) (by omega) hr0 hc0 h0 hl0 (fun _ _ _ => hI)).mono ?_
    intro e w' h
    change wlen (nW l0)≤130 at h1
    change 1 < nW l0 at h2
    change nW l0 % 2 = 1 at h3
    rcases h with ⟨g1,_⟩ | ⟨_,g2,_⟩ | ⟨_,_,g3,_⟩ | ⟨_,_,_,rfl,vM,vR,g1,g2,g3,g4,g5⟩
    · omega
    · omega
    · omega
    · exact ⟨rfl,⟨vM,vR,g1,g2,g3,g5⟩,(g4.2 w0.heap.size (by omega) (by omega)).trans b3⟩
  obtain ⟨K,hK⟩:∃ K:Int,K = IntKind.u64.wrap (-x):=⟨_,rfl⟩
  rw [← hK] at HD
  rw [← hK]
  clear hK
  rw [hw1] at HD
  have HG:=Aside0.mk (guarded_ret 151 _ _ w0 (fun _ => rfl) HD)
  have HB:=Aside0.mk (And.intro hsz hsz1)
  clear HD b1 b2 hB hsz hr0 h0 hB1 b3 hsz1 h1 h2 h3 hI
  have HW1:=Aside0.mk hw1
  clear hw1
  go_enter Try.func110,Try.ntmps110
  go_wp2_with fail
  rw [← hw0]
  refine HG.out.mono ?_
  rintro e w4 ⟨rfl,w3,⟨vM,vR,g1,g2,g3,g5⟩,rfl⟩
  have hw1:=HW1.out
  rw [← hw1] at g2 g3
  clear hw1
  have hs:=HB.out
  have hfar:∀ k,w1.heap.size≤k→k≠(⟨w0.heap.size,0,none⟩:Addr).block:=fun k hk => by show k≠w0.heap.size;omega
  have HM4:=Aside0.mk (blk_far g1 (p:=⟨w0.heap.size,0,none⟩) (by show w.heap.size + 1≠w0.heap.size;omega) (.int .i64 0))
  have HR4:=Aside0.mk (And.intro (Kd.R_far (p:=⟨w0.heap.size,0,none⟩) g2 (fun k hk => hfar k hk.1) (.int .i64 0)) (Kd.R_far (p:=⟨w0.heap.size,0,none⟩) g3 (fun k hk => hfar k hk.1) (.int .i64 0)))
  have HB4:=Aside0.mk (below_set (j:=0) (v:=.int .i64 0) g5 (show w.heap.size≤w0.heap.size by omega))
  obtain ⟨w4,hw4⟩:∃ w4:World,w4 = w3.setCell ⟨w0.heap.size,0,none⟩ (.int .i64 0):=⟨_,rfl⟩
  rw [← hw4] at HM4 HR4 HB4 ⊢
  obtain ⟨AM,cM,eM⟩:=Kd.R_slice g2
  obtain ⟨AR,cR,eR⟩:=Kd.R_slice g3
  subst eM
  subst eR
  have z0:=(blk_cell HM4.out 0).trans rfl
  have z1:=(blk_cell HM4.out 1).trans rfl
  have z2:=(blk_cell HM4.out 2).trans rfl
  have f0:=blk_frozen HM4.out 0
  have f1:=blk_frozen HM4.out 1
  have f2:=blk_frozen HM4.out 2
  clear g1 g2 g3 g5 hs hfar hw4
  go_wp2
  refine bodyPost_ret (results_ct rfl _ _ (w.heap.size + 1) 26 _ (0,0) _ rfl (blk_put (blk_put (blk_put HM4.out 0 _ rfl) 1 _ rfl) 2 _ rfl) Try.underlying26 rfl (by kernel_rfl)) rfl ?_
  have hs:=HB.out
  have hne:∀ i,∀ k,w1.heap.size≤k→k≠(⟨w.heap.size + 1,i,none⟩:Addr).block:=fun i k hk => by show k≠w.heap.size + 1;omega
  exact ⟨_,_,rfl,Kd.R_mono (Kd.R_lower (Kd.R_far (Kd.R_far (Kd.R_far HR4.out.1 (fun k hk => hne 0 k hk.1) _) (fun k hk => hne 1 k hk.1) _) (fun k hk => hne 2 k hk.1) _) (by omega)) (fun k hk => hk.2),Kd.R_mono (Kd.R_lower (Kd.R_far (Kd.R_far (Kd.R_far HR4.out.2 (fun k hk => hne 0 k hk.1) _) (fun k hk => hne 1 k hk.1) _) (fun k hk => hne 2 k hk.1) _) (by omega)) (fun k hk => hk.2),below_set (below_set (below_set HB4.out (by omega)) (by omega)) (by omega)⟩
end Go.Proofs.Ytonpekldcnankaa.X
end
section
namespace Go.Proofs.Ytonpekldcnankaa.X
open Go.RowKit Go.Proofs.YtonpekldcnankaaW.PrintWords Go.Proofs.YtonpekldcnankaaW.PrintLast Go.Proofs.YtonpekldcnankaaW.PrintMore
attribute [local go_sem] max2_int min2_int max_two min_two max_three min_three max_four min_four
set_option linter.unusedVariables false
set_option linter.unusedSimpArgs false
def mont_Setup.f (k:Nat) (l0:List Int):Option (List Int × Int × List Int × Int) :=
 if l0.all Ma.wd = true∧l0.length≤1000 then
  if 130 < wlen (Ma.num 18446744073709551616 l0) then some ([],0,[],2)
  else if Ma.num 18446744073709551616 l0≤1 then some ([],0,[],1)
  else if Ma.num 18446744073709551616 l0 % 2 = 0 then some ([],0,[],60)
  else (word_Inverse.f k (Ma.at0 l0 0)).bind fun x => some (Ma.dgs 18446744073709551616 (wlen (Ma.num 18446744073709551616 l0)) (Ma.num 18446744073709551616 l0),IntKind.u64.wrap (-x),Ma.dgs 18446744073709551616 (wlen (Ma.num 18446744073709551616 l0)) (18446744073709551616 ^ (2 * wlen (Ma.num 18446744073709551616 l0)) % Ma.num 18446744073709551616 l0),0)
 else none
theorem mont_Setup.mono:∀ a0 k,LeO (mont_Setup.f k a0) (mont_Setup.f (k + 1) a0):=by
 intro a0 k r h
 unfold mont_Setup.f at h ⊢
 split at h
 ·
  rename_i hc
  rw [if_pos hc]
  split at h
  ·
   rename_i h1
   rw [if_pos h1]
   exact h
  ·
   rename_i h1
   rw [if_neg h1]
   split at h
   ·
    rename_i h2
    rw [if_pos h2]
    exact h
   ·
    rename_i h2
    rw [if_neg h2]
    split at h
    ·
     rename_i h3
     rw [if_pos h3]
     exact h
    ·
     rename_i h3
     rw [if_neg h3]
     cases e:word_Inverse.f k (Ma.at0 a0 0) with
     | none => rw [e] at h;exact absurd h (by simp)
     | some x => rw [e] at h;rw [word_Inverse.mono _ _ _ e];exact h
 ·
  exact absurd h (by simp)
theorem mont_Setup.calls (k:Nat) (A0:Option Addr) (c0:Nat) (l0:List Int) (r1:List Int) (r2:Int) (r3:List Int) (r4:Int) (w:World) (hr0:Kd.C (Kd.int .u64) w A0 l0.length l0) (hc0:l0.length≤c0) (h:mont_Setup.f k l0 = some (r1,r2,r3,r4)) :
  Calls Try.prog 110 #[.slice A0 l0.length c0] w fun e w' => ∃ v0_ v2_:Value,e = .returned (.tuple #[.agg #[v0_,.int .u64 r2,v2_],.int .i64 r4])∧Kd.R (Kd.int .u64) 24 w' w.heap.size (fun k_ => some k_≠(v2_:Value).ownBlock) v0_ r1∧Kd.R (Kd.int .u64) 24 w' w.heap.size (fun k_ => some k_≠(v0_:Value).ownBlock) v2_ r3∧Below w.heap.size w w':=by
 unfold mont_Setup.f at h
 split at h
 ·
  rename_i hc
  obtain ⟨h1,h2⟩:=hc
  split at h
  ·
   rename_i hl
   simp only [Option.some.injEq,Prod.mk.injEq] at h
   obtain ⟨rfl,rfl,rfl,rfl⟩:=h
   exact mont_Setup_bad A0 c0 l0 2 w hr0 hc0 (Ma.wds_dg.1 h1) h2 (.inl ⟨rfl,hl⟩)
  ·
   rename_i hl
   split at h
   ·
    rename_i hz
    simp only [Option.some.injEq,Prod.mk.injEq] at h
    obtain ⟨rfl,rfl,rfl,rfl⟩:=h
    exact mont_Setup_bad A0 c0 l0 1 w hr0 hc0 (Ma.wds_dg.1 h1) h2 (.inr (.inl ⟨rfl,by omega,hz⟩))
   ·
    rename_i hz
    split at h
    ·
     rename_i he
     simp only [Option.some.injEq,Prod.mk.injEq] at h
     obtain ⟨rfl,rfl,rfl,rfl⟩:=h
     exact mont_Setup_bad A0 c0 l0 60 w hr0 hc0 (Ma.wds_dg.1 h1) h2 (.inr (.inr ⟨rfl,by omega,by omega,he⟩))
    ·
     rename_i he
     cases e:word_Inverse.f k (Ma.at0 l0 0) with
     | none => rw [e] at h;exact absurd h (by simp)
     | some x =>
      rw [e] at h
      simp only [Option.bind_some,Option.some.injEq,Prod.mk.injEq] at h
      obtain ⟨rfl,rfl,rfl,rfl⟩:=h
      exact mont_Setup_ok k A0 c0 l0 x w hr0 hc0 (Ma.wds_dg.1 h1) h2 (by omega) (by omega) (by omega) e
 ·
  exact absurd h (by simp)
end Go.Proofs.Ytonpekldcnankaa.X
end
