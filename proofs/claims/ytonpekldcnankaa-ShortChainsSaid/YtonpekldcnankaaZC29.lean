/- Texts of the walk and of the plain laws, laid together by a program: Qk, X11, X12. -/
import Derived.Test.YtonpekldcnankaaZC24
import Derived.Test.YtonpekldcnankaaZC28
set_option maxHeartbeats 8000000
set_option maxRecDepth 100000
section
namespace Go.Proofs.Ytonpekldcnankaa.X
open Go.RowKit Go.Proofs.YtonpekldcnankaaW.PrintWords Go.Proofs.YtonpekldcnankaaW.PrintLast Go.Proofs.YtonpekldcnankaaW.PrintMore Go.Proofs.Ytonpekldcnankaa.Ma
set_option linter.unusedVariables false
set_option linter.unusedSimpArgs false
theorem qk_words {M n:Nat} (hM:M≠0) (hn:n = (bl M + 63) / 64):0 < n∧18446744073709551616 ^ (n - 1)≤M∧M < 18446744073709551616 ^ n:=by
  have h1:=bl_lt M
  have h2:=bl_ge hM
  have h3:=bl_pos hM
  have e:∀ k,18446744073709551616 ^ k = 2 ^ (64 * k):=by intro k;rw [Nat.pow_mul]
  refine ⟨by omega,?_,?_⟩
  · rw [e]
    exact Nat.le_trans (Nat.pow_le_pow_right (by decide) (by omega)) h2
  · rw [e]
    exact Nat.lt_of_lt_of_le h1 (Nat.pow_le_pow_right (by decide) (by omega))
theorem qk_le {l:List Int} {n:Nat} (h:Wd l) (hn:n = (bl (nW l) + 63) / 64):n≤l.length:=by
  have:=bl_le (x:=nW l) (n:=64 * l.length) (by have:=nW_lt h;rw [Nat.pow_mul];exact this)
  omega
theorem qk_take {l:List Int} {n:Nat} (h:Wd l) (hn:nW l < 18446744073709551616 ^ n):nW (l.take n) = nW l:=by
  show num _ _ = _
  rw [num_take h]
  exact Nat.mod_eq_of_lt hn
def QkI (w:World) (A M la lr k gq cq gr cr:Nat) (wr:World):Prop :=
  Kd.R (Kd.int .u64) 24 wr w.heap.size (fun k_ => k_ = gq) (.slice (some ⟨gq,0,none⟩) la cq) (wds la (lqQ A M k))∧Kd.R (Kd.int .u64) 24 wr w.heap.size (fun k_ => k_ = gr) (.slice (some ⟨gr,0,none⟩) lr cr) (wds lr 0)∧Below w.heap.size w wr
theorem QkI.below {w wr w':World} {A M la lr k gq cq gr cr:Nat} (h:QkI w A M la lr k gq cq gr cr wr) (hb:Below wr.heap.size wr w'):QkI w A M la lr k gq cq gr cr w':=⟨Kd.R_below h.1 hb,Kd.R_below h.2.1 hb,below_then h.2.2 h.2.2.size hb⟩
theorem QkI.laid {w wr:World} {A M la lr k gq cq gr cr:Nat} (h:QkI w A M la lr (k + 1) gq cq gr cr wr) (hne:gr≠gq) (hw:w.heap.size≤gq) (hM:0 < M) (hk:k < la) :
    wr.cell? ⟨gq,k,none⟩ = some (.int .u64 (at0 (wds la (lqQ A M (k + 1))) k))∧wr.frozen? ⟨gq,k,none⟩ = false∧QkI w A M la lr k gq cq gr cr (wr.setCell ⟨gq,k,none⟩ (.int .u64 ((lqP A M k / M:Nat):Int))):=by
  obtain ⟨hx,hf⟩:=Kd.R_celln 0 h.1 (k:Int) (by omega) (by omega)
  obtain ⟨hP,hQ⟩:=Kd.R_putg h.1 (k:Int) ((lqP A M k / M:Nat):Int)
  rw [Int.toNat_natCast] at hx hf hP hQ
  rw [lq_set hM hk] at hP
  refine ⟨?_,hf,hP,Kd.R_grown h.2.1 hQ (fun k hk e => hne (by rw [← hk];exact Option.some.inj e)),pw_below_grown h.2.2 (some gq) h.2.2.size hQ (fun k hk2 => by cases hk2;exact hw)⟩
  rw [hx]
  show some (Value.int .u64 (rdOf 0 _ _)) = _
  unfold rdOf at0
  rw [Int.toNat_natCast]
theorem qk_made {w w3:World} (hB:Below w.heap.size w w3) {n m:Nat} (hn:n≤35184372088832) (hm:m≤35184372088832) :
    Kd.R (Kd.int .u64) 24 ((w3.alloc (.cells (Zs n) 24)).alloc (.cells (Zs m) 24)) w.heap.size (fun k_ => k_ = w3.heap.size) (.slice (some ⟨w3.heap.size,0,none⟩) n n) (List.replicate n 0) ∧
    Kd.R (Kd.int .u64) 24 ((w3.alloc (.cells (Zs n) 24)).alloc (.cells (Zs m) 24)) w.heap.size (fun k_ => k_ = w3.heap.size + 1) (.slice (some ⟨w3.heap.size + 1,0,none⟩) m m) (List.replicate m 0) ∧
    Below w.heap.size w ((w3.alloc (.cells (Zs n) 24)).alloc (.cells (Zs m) 24)):=by
  have hs:=hB.size
  refine ⟨R_zs (blk_alloc (blk_new w3 _) _) hs hn rfl,R_zs (g:=w3.heap.size + 1) ?_ (by omega) hm rfl,below_alloc (below_alloc hB _) _⟩
  have:=blk_new (w3.alloc (.cells (Zs n) 24)) (.cells (Zs m) 24 (0,0))
  simpa using this
theorem qk_zero {A M la:Nat} (hA:A < 18446744073709551616 ^ la):lqQ A M la = 0∧A / 18446744073709551616 ^ la % M = 0:=by
  unfold lqQ
  rw [Nat.div_eq_of_lt hA,Nat.zero_div,Nat.zero_mul,Nat.zero_mod]
  exact ⟨rfl,rfl⟩
theorem qk_end (A M:Nat):lqQ A M 0 = A / M:=by
  unfold lqQ
  rw [Nat.pow_zero,Nat.div_one,Nat.mul_one]
theorem qk_first {lr R:Nat} (hl:0 < lr) (hR:R < 18446744073709551616):(wds lr 0).set 0 (R:Int) = wds lr R:=by
  have h:=dgs_set (B:=18446744073709551616) R hl (R:Int) (by rw [Nat.pow_zero,Nat.div_one,Nat.mod_eq_of_lt hR])
  have e:=dgs_append (B:=18446744073709551616) 1 (lr - 1) R
  rw [Nat.pow_one,Nat.div_eq_of_lt hR,dgs_zero,show 1 + (lr - 1) = lr by omega] at e
  show (dgs _ _ _).set _ _ = dgs _ _ _
  rw [dgs_zero,e]
  exact h
theorem QkI.rest {w wr:World} {A M la lr k gq cq gr cr R:Nat} (h:QkI w A M la lr k gq cq gr cr wr) (hne:gr≠gq) (hw:w.heap.size≤gr) (hl:0 < lr) (hR:R < 18446744073709551616) :
    (∃ y:Int,wr.cell? ⟨gr,0,none⟩ = some (.int .u64 y))∧wr.frozen? ⟨gr,0,none⟩ = false∧Kd.R (Kd.int .u64) 24 (wr.setCell ⟨gr,0,none⟩ (.int .u64 (R:Int))) w.heap.size (fun k_ => k_ = gq) (.slice (some ⟨gq,0,none⟩) la cq) (wds la (lqQ A M k)) ∧
      Kd.R (Kd.int .u64) 24 (wr.setCell ⟨gr,0,none⟩ (.int .u64 (R:Int))) w.heap.size (fun k_ => k_ = gr) (.slice (some ⟨gr,0,none⟩) lr cr) (wds lr R)∧Below w.heap.size w (wr.setCell ⟨gr,0,none⟩ (.int .u64 (R:Int))):=by
  obtain ⟨hx,hf⟩:=Kd.R_celln 0 h.2.1 ((0:Nat):Int) (by omega) (by omega)
  obtain ⟨hP,hQ⟩:=Kd.R_putg h.2.1 ((0:Nat):Int) (R:Int)
  rw [Int.toNat_natCast] at hx hf hP hQ
  rw [qk_first hl hR] at hP
  exact ⟨⟨_,hx⟩,hf,Kd.R_grown h.1 hQ (fun k hk e => hne (by rw [← hk];exact (Option.some.inj e).symm)),hP,pw_below_grown h.2.2 (some gr) h.2.2.size hQ (fun k hk2 => by cases hk2;exact hw)⟩
theorem Quick1_ok (A1:Option Addr) (c1:Nat) (l1:List Int) (A2:Option Addr) (c2:Nat) (l2:List Int) (ba bm:Nat) (t1 t2:TypeId) (w:World)
    (hba:w.heap[ba]? = some (.cells #[.slice A1 l1.length c1] t1 (0,0))) (hbm:w.heap[bm]? = some (.cells #[.slice A2 l2.length c2] t2 (0,0)))
    (hr1:Kd.C (Kd.int .u64) w A1 l1.length l1) (hc1:l1.length≤c1) (hr2:Kd.C (Kd.int .u64) w A2 l2.length l2) (hc2:l2.length≤c2) (h1:Wd l1) (h2:Wd l2) (hl1:l1.length≤300) (hl2:l2.length≤300) (hz:nW l2≠0) :
    Calls Try.prog 166 #[.pointer (some ⟨ba,0,none⟩),.pointer (some ⟨bm,0,none⟩)] w fun e w' => ∃ v0 v1:Value,e = .returned (.tuple #[v0,v1]) ∧
      Kd.R (Kd.int .u64) 24 w' w.heap.size (fun k_ => w.heap.size≤k_) v0 (wds l1.length (nW l1 / nW l2))∧Kd.R (Kd.int .u64) 24 w' w.heap.size (fun k_ => w.heap.size≤k_) v1 (wds l2.length (nW l1 % nW l2))∧Below w.heap.size w w':=by
  have HBX:=Aside0.mk (fun (W:World) (hW:Below w.heap.size w W) => And.intro (box_stay hba hW) (box_stay hbm hW))
  obtain ⟨x1,x2⟩:=HBX.out w (Below.refl _ _)
  have H1:=Aside0.mk hr1
  have H2:=Aside0.mk hr2
  obtain ⟨kB,hkB⟩:=sp_nat_Bits h2 (by omega)
  have SB:=Aside0.mk (hkB kB (Nat.le_refl _))
  obtain ⟨b,hb⟩:∃ b:Nat,b = bl (nW l2):=⟨_,rfl⟩
  rw [← hb] at SB
  obtain ⟨n,hn⟩:∃ n:Nat,n = (b + 63) / 64:=⟨_,rfl⟩
  obtain ⟨hn0,hMg,hMl⟩:=qk_words (n:=n) hz (by rw [hn,hb])
  have hnl:=qk_le (n:=n) h2 (by rw [hn,hb])
  have hbl:b≤19200:=by
    have:=bl_le (x:=nW l2) (n:=64 * l2.length) (by have:=nW_lt h2;rw [Nat.pow_mul];exact this)
    omega
  obtain ⟨b6,hb6⟩:∃ b6:Nat,b6 = b + 63:=⟨_,rfl⟩
  have p1:IntKind.i64.wrap ((b:Int) + 63) = (b6:Int):=by rw [i64_w,w64 (by omega) (by omega)];omega
  have q1:IntKind.i64.wrap (Int.tdiv (b6:Int) 64) = (n:Int):=by rw [Int.tdiv_eq_ediv_of_nonneg (by omega),i64_w,w64 (by omega) (by omega)];omega
  have q2:IntKind.i64.wrap ((b6:Int) / 64) = (n:Int):=by rw [i64_w,w64 (by omega) (by omega)];omega
  have q3:Int.tdiv (b6:Int) 64 = (n:Int):=by rw [Int.tdiv_eq_ediv_of_nonneg (by omega)];omega
  have q4:(b6:Int) / 64 = (n:Int):=by omega
  have HW:=Aside0.mk (show Wd l1∧Wd l2∧nW l2≠0∧0 < n∧n≤l2.length∧18446744073709551616 ^ (n - 1)≤nW l2∧nW l2 < 18446744073709551616 ^ n from ⟨h1,h2,hz,hn0,hnl,hMg,hMl⟩)
  clear hba hbm hr1 hr2 h1 h2 hz hkB hb hn hMg hMl hb6 hbl hn0
  go_enter Try.func166,Try.ntmps166
  go_upto_region 3 with (first
    | (go_at_call 114;(with_reducible refine (asked_ok A1 c1 l1 A2 c2 l2 _ H1.out hc1 H2.out hc2 HW.out.2.1 hl1 hl2 HW.out.2.2.1).mono ?_);rintro e w3 ⟨rfl,hb⟩;have HB3:=Aside0.mk hb;clear x1 x2;obtain ⟨x1,x2⟩:=HBX.out _ hb;clear hb)
    | (go_at_call 94;(with_reducible refine (nat_Bits.calls kB _ _ l2 _ _ (Kd.C_below H2.out HB3.out) hc2 SB.out).mono ?_);rintro e w6 ⟨rfl,⟨nd2,rfl⟩⟩;have HB4:=Aside0.mk (pw_below_drewN HB3.out (nd2 + 1))))
  go_cut [5,6] (fun s5 s6 wx => ∃ gq cq gr cr,s5 = .slice (some ⟨gq,0,none⟩) l1.length cq∧s6 = .slice (some ⟨gr,0,none⟩) l2.length cr∧Aside0 (gr≠gq∧w.heap.size≤gq∧w.heap.size≤gr∧QkI w (nW l1) (nW l2) l1.length l2.length l1.length gq cq gr cr wx))
  case first =>
    have m1:=run_make_nat l1.length (by omega)
    have m2:=run_make_nat l2.length (by omega)
    obtain ⟨y1,_⟩:=HBX.out _ (below_alloc HB4.out (.cells (Zs l2.length) 24))
    obtain ⟨_,y2⟩:=HBX.out _ (below_alloc HB4.out (.cells (Zs l1.length) 24))
    have hz0:=(qk_zero (M:=nW l2) (nW_lt HW.out.1)).1
    have hsz:=HB4.out.size
    go_region
    all_goals go_wp2
    all_goals go_meet
    · obtain ⟨q1,q2,q3⟩:=qk_made HB4.out (n:=l1.length) (m:=l2.length) (by omega) (by omega)
      refine ⟨_,_,_,_,rfl,rfl,⟨by omega,HB3.out.size,Nat.le_succ_of_le HB3.out.size,?_,?_,q3⟩⟩
      · rw [hz0,show wds l1.length 0 = List.replicate l1.length 0 from dgs_zero _];exact q1
      · rw [show wds l2.length 0 = List.replicate l2.length 0 from dgs_zero _];exact q2
    · obtain ⟨q1,q2,q3⟩:=qk_made HB4.out (n:=l2.length) (m:=l1.length) (by omega) (by omega)
      refine ⟨_,_,_,_,rfl,rfl,⟨by omega,Nat.le_succ_of_le HB3.out.size,HB3.out.size,?_,?_,q3⟩⟩
      · rw [hz0,show wds l1.length 0 = List.replicate l1.length 0 from dgs_zero _];exact q2
      · rw [show wds l2.length 0 = List.replicate l2.length 0 from dgs_zero _];exact q1
  case rest =>
    obtain ⟨gq,cq,gr,cr,rfl,rfl,hcut⟩:=hcut
    clear x1 x2 HB3
    obtain ⟨x1,x2⟩:=HBX.out _ hcut.out.2.2.2.2.2
    have HN:=Aside0.mk (show gr≠gq∧w.heap.size≤gq∧w.heap.size≤gr from ⟨hcut.out.1,hcut.out.2.1,hcut.out.2.2.1⟩)
    have HI:=Aside0.mk hcut.out.2.2.2
    clear hcut
    by_cases hn1:n = 1
    · have d1:((n:Int) == 1) = true:=beq_iff_eq.2 (by omega)
      have d2:decide ((n:Int) = 1) = true:=decide_eq_true (by omega)
      have d3:decide (n = 1) = true:=decide_eq_true hn1
      have hM1:nW l2 < 18446744073709551616:=by have:=HW.out.2.2.2.2.2.2;rw [hn1,Nat.pow_one] at this;exact this
      obtain ⟨j0,hj0⟩:∃ j:Int,j = (l1.length:Int) - 1:=⟨_,rfl⟩
      have p4:IntKind.i64.wrap ((l1.length:Int) - 1) = j0:=by rw [i64_w,w64 (by omega) (by omega)];omega
      have HJ:=Aside0.mk (show j0 + 1 = (l1.length:Int) by omega)
      have hl20:0 < l2.length:=by have:=HW.out.2.2.2;omega
      obtain ⟨am,hA,hxm⟩:=Kd.at_int H2.out ((0:Nat):Int) (by omega) (by omega)
      have hat:at0 l2 0 = (nW l2:Int):=by
        have:=at0_num (B:=18446744073709551616) (by decide) HW.out.2.1 0
        rw [Nat.pow_zero,Nat.div_one,show num 18446744073709551616 l2 = nW l2 from rfl,Nat.mod_eq_of_lt hM1] at this
        exact this
      rw [rdA,Int.toNat_natCast,hat] at hxm
      subst hA
      have HXM:=Aside0.mk hxm
      have HM:=Aside0.mk (show 0 < nW l2∧nW l2 < 18446744073709551616 from ⟨Nat.pos_of_ne_zero HW.out.2.2.1,hM1⟩)
      clear hxm hat hM1 hj0 hn1
      go_upto_region 7 with (fail)
      go_loopg [7,8] (l1.length + 1) (fun q v7 v8 wx => ∃ (k:Nat) (j:Int) (rk:Nat),v7 = .int .u64 (rk:Int)∧v8 = .int .i64 j∧Aside0 (j + 1 = (k:Int))∧Aside0 (k + 1 = q∧k≤l1.length∧rk = nW l1 / 18446744073709551616 ^ k % nW l2)∧Aside0 (QkI w (nW l1) (nW l2) l1.length l2.length k gq cq gr cr wx))
      case atStart => exact ⟨l1.length,j0,0,rfl,rfl,HJ,⟨rfl,Nat.le_refl _,(qk_zero (nW_lt HW.out.1)).2.symm⟩,HI⟩
      case round =>
        clear HI x1 x2
        obtain ⟨k,j,rk,rfl,rfl,hj,hk,HI⟩:=hrel
        obtain ⟨x1,x2⟩:=HBX.out _ HI.out.2.2
        have hrk:rk < nW l2:=by rw [hk.out.2.2];exact Nat.mod_lt _ HM.out.1
        rcases Nat.eq_zero_or_pos k with hk0 | hk0
        · subst hk0
          have hj':j = -1:=by have:=hj.out;omega
          subst hj'
          have d4:decide ((-1:Int) ≥ (0:Int)) = false:=rfl
          have hR:rk = nW l1 % nW l2:=by rw [hk.out.2.2,Nat.pow_zero,Nat.div_one]
          obtain ⟨⟨y,hy⟩,hyf,r1,r2,r3⟩:=QkI.rest HI.out HN.out.1 HN.out.2.2 hl20 (Nat.lt_trans hrk HM.out.2)
          rw [qk_end] at r1
          have hR2:wds l2.length rk = wds l2.length (nW l1 % nW l2):=by rw [hR]
          rw [hR2] at r2
          have HE:=Aside0.mk (And.intro (Kd.R_mono r1 (ok':=fun k_ => w.heap.size≤k_) (fun k hk => by rw [hk];exact HN.out.2.1)) (And.intro (Kd.R_mono r2 (ok':=fun k_ => w.heap.size≤k_) (fun k hk => by rw [hk];exact HN.out.2.2)) r3))
          clear r1 r2 r3 hR hR2 hrk
          go_wp2
          go_ret2
          exact ⟨_,_,rfl,HE.out⟩
        · obtain ⟨k',rfl⟩:∃ k',k = k' + 1:=⟨k - 1,by omega⟩
          obtain rfl:j = (k':Int):=by have:=hj.out;omega
          obtain ⟨ko,hko⟩:∃ ko,gk = ko + 1:=⟨gk - 1,by have:=hk.out;omega⟩
          subst hko
          obtain ⟨jm,hjm⟩:∃ jm:Int,jm = (k':Int) - 1:=⟨_,rfl⟩
          have pjm:IntKind.i64.wrap ((k':Int) - 1) = jm:=by have:=hk.out;rw [i64_w,w64 (by omega) (by omega)];omega
          have HJM:=Aside0.mk (show jm + 1 = (k':Int) by omega)
          have d4:decide ((k':Int) ≥ (0:Int)) = true:=decide_eq_true (by omega)
          have d5:decide ((0:Int)≤(k':Int)) = true:=decide_eq_true (by omega)
          have hkl:k' < l1.length:=by have:=hk.out;omega
          have hkli:(k':Int) < (l1.length:Int):=by omega
          obtain ⟨ad,hA,hxa⟩:=Kd.at_int H1.out (k':Int) (by omega) (by omega)
          have hat1:=at0_num (B:=18446744073709551616) (by decide) HW.out.1 k'
          rw [show num 18446744073709551616 l1 = nW l1 from rfl] at hat1
          rw [rdA,Int.toNat_natCast,hat1] at hxa
          subst hA
          obtain ⟨u0,hu0⟩:∃ u0:Nat,u0 = nW l1 / 18446744073709551616 ^ k' % 18446744073709551616:=⟨_,rfl⟩
          rw [← hu0] at hxa
          have hxa':=(HI.out.2.2.cell (World.block_lt_of_cell? w _ hxa)).trans hxa
          have hxm':=(HI.out.2.2.cell (World.block_lt_of_cell? w _ HXM.out)).trans HXM.out
          obtain ⟨kD,hkD⟩:=sp_Div64 (h:=rk) (l:=u0) (y:=nW l2) hrk (by rw [hu0];exact Nat.mod_lt _ (by decide)) HM.out.2
          have hkD2:=hkD kD (Nat.le_refl _)
          have hP:rk * 18446744073709551616 + u0 = lqP (nW l1) (nW l2) k':=by rw [hu0,hk.out.2.2];rfl
          rw [hP] at hkD2
          have HL:=fun (W:World) (h:QkI w (nW l1) (nW l2) l1.length l2.length (k' + 1) gq cq gr cr W) => QkI.laid h HN.out.1 HN.out.2.1 HM.out.1 hkl
          obtain ⟨q0,hq0⟩:∃ q0:Nat,q0 = lqP (nW l1) (nW l2) k' / nW l2:=⟨_,rfl⟩
          obtain ⟨r0,hr0⟩:∃ r0:Nat,r0 = lqP (nW l1) (nW l2) k' % nW l2:=⟨_,rfl⟩
          rw [← hq0] at hkD2 HL
          rw [← hr0] at hkD2
          have hr1:r0 = nW l1 / 18446744073709551616 ^ k' % nW l2:=by rw [hr0,lq_mod k' HM.out.1]
          obtain ⟨y0,hy0⟩:∃ y:Int,y = at0 (wds l1.length (lqQ (nW l1) (nW l2) (k' + 1))) k':=⟨_,rfl⟩
          rw [← hy0] at HL
          obtain ⟨mw,hmw⟩:∃ m:Nat,m = nW l2:=⟨_,rfl⟩
          rw [← hmw] at hkD2 hxm'
          have hxm3:wr.cell? am = some (.int .u64 (mw:Int)):=hxm'
          have hl20i:(0:Int) < (l2.length:Int):=by omega
          have HDv:=Aside0.mk (fun W:World => bits_Div64.calls kD (rk:Int) (u0:Int) (mw:Int) _ _ W hkD2)
          have HL:=Aside0.mk HL
          have HR1:=Aside0.mk hr1
          clear hjm hxa hat1 hu0 hkD hkD2 hP hq0 hr0 hr1 hy0 hmw hrk
          go_upto_region 9 with (fail)
          obtain ⟨hy1,hy2,_⟩:=HL.out _ HI.out
          go_region_with (go_at_call 167;(with_reducible refine (HDv.out _).mono ?_);rintro e w5 ⟨rfl,⟨nd5,rfl⟩⟩)
          all_goals (go_wp2;go_roundg ko;(case measure => omega);(case rel => exact ⟨k',jm,r0,rfl,rfl,HJM,⟨by have:=hk.out.1;omega,by omega,HR1.out⟩,⟨(HL.out _ (QkI.below HI.out (pw_below_drewN (Below.refl _ _) _))).2.2⟩⟩))
    · have d1:((n:Int) == 1) = false:=beq_eq_false_iff_ne.2 (by omega)
      have d2:decide ((n:Int) = 1) = false:=decide_eq_false (by omega)
      have d3:decide (n = 1) = false:=decide_eq_false hn1
      have htl:(l2.take n).length = n:=by rw [List.length_take];omega
      have htn:nW (l2.take n) = nW l2:=qk_take HW.out.2.1 HW.out.2.2.2.2.2.2
      have hWt:Wd (l2.take n):=fun x hx => HW.out.2.1 x (List.mem_of_mem_take hx)
      have HL:=Aside0.mk (show ∀ W:World,QkI w (nW l1) (nW l2) l1.length l2.length l1.length gq cq gr cr W→Calls Try.prog 168 #[.slice (some ⟨gq,0,none⟩) l1.length cq,.slice (some ⟨gr,0,none⟩) l2.length cr,.slice A1 l1.length c1,.slice A2 n c2] W fun e w' => e = .returned (.tuple #[]) ∧
        Kd.R (Kd.int .u64) 24 w' w.heap.size (fun k_ => k_ = gq) (.slice (some ⟨gq,0,none⟩) l1.length cq) (wds l1.length (nW l1 / nW l2))∧Kd.R (Kd.int .u64) 24 w' w.heap.size (fun k_ => k_ = gr) (.slice (some ⟨gr,0,none⟩) l2.length cr) (wds l2.length (nW l1 % nW l2))∧Below w.heap.size w w' from by
        intro W hI
        obtain ⟨g1,g2,g3⟩:=hI
        rw [(qk_zero (M:=nW l2) (nW_lt HW.out.1)).1] at g1
        have hh:=long2_ok gq cq l1.length gr cr l2.length A1 c1 l1 A2 c2 (l2.take n) w W g3 (Kd.R_mono g1 (fun k hk => by rw [hk];exact HN.out.2.1)) (Kd.R_mono g2 (fun k hk => by rw [hk];exact HN.out.2.2)) (fun h => HN.out.1 h.symm) (Kd.C_below H1.out g3) hc1 (Kd.C_take (Kd.C_below H2.out g3) hnl) (by omega) HW.out.1 hWt rfl hl1 (by omega) (by have:=HW.out.2.2.2.1;omega) (by omega) hl2 (by rw [htn,htl];exact Nat.div_pos HW.out.2.2.2.2.2.1 (Nat.pow_pos (by decide)))
        rw [htn,htl] at hh
        exact hh)
      have hnc:n≤c2:=by omega
      have hnci:(n:Int)≤(c2:Int):=by omega
      clear htl htn hWt
      go_upto_region 12 with (fail)
      go_cut [] (fun wx => Aside0 (Kd.R (Kd.int .u64) 24 wx w.heap.size (fun k_ => k_ = gq) (.slice (some ⟨gq,0,none⟩) l1.length cq) (wds l1.length (nW l1 / nW l2))∧Kd.R (Kd.int .u64) 24 wx w.heap.size (fun k_ => k_ = gr) (.slice (some ⟨gr,0,none⟩) l2.length cr) (wds l2.length (nW l1 % nW l2))∧Below w.heap.size w wx))
      case first =>
        go_region_with (go_at_call 168;(with_reducible refine (HL.out _ (QkI.below HI.out (Below.drew (Below.refl _ _)))).mono ?_);rintro e w7 ⟨rfl,h7⟩;have H7:=Aside0.mk h7;clear h7)
        all_goals (go_wp2;go_meet)
        all_goals exact H7
      case rest =>
        clear x1 x2 HI
        go_wp2
        go_ret2
        exact ⟨_,_,rfl,Kd.R_mono hcut.out.1 (fun k hk => by rw [hk];exact HN.out.2.1),Kd.R_mono hcut.out.2.1 (fun k hk => by rw [hk];exact HN.out.2.2),hcut.out.2.2⟩
theorem Quick1_throw (E:Int) (A1:Option Addr) (c1:Nat) (l1:List Int) (A2:Option Addr) (c2:Nat) (l2:List Int) (ba bm:Nat) (t1 t2:TypeId) (w:World)
    (hba:w.heap[ba]? = some (.cells #[.slice A1 l1.length c1] t1 (0,0))) (hbm:w.heap[bm]? = some (.cells #[.slice A2 l2.length c2] t2 (0,0)))
    (ha:Calls Try.prog 114 #[.slice A1 l1.length c1,.slice A2 l2.length c2] w fun e w' => e = .panicked (thrownP E)∧Below w.heap.size w w') :
    Calls Try.prog 166 #[.pointer (some ⟨ba,0,none⟩),.pointer (some ⟨bm,0,none⟩)] w fun e w' => e = .panicked (thrownP E)∧Below w.heap.size w w':=by
  have x1:=cell_of_one hba
  have x2:=cell_of_one hbm
  have HA:=Aside0.mk ha
  clear hba hbm ha
  go_enter Try.func166,Try.ntmps166
  go_wp2_with (go_at_call 114;(with_reducible refine HA.out.mono ?_);rintro e w3 ⟨rfl,hb⟩)
  refine ⟨by rfl,?_⟩
  exact ⟨rfl,hb⟩
theorem qk_boxes (w:World) (a b:Value) (t1 t2:TypeId) (W:World) (hW:W = (w.alloc (.cells #[a] t1)).alloc (.cells #[b] t2)) :
    W.heap[w.heap.size]? = some (.cells #[a] t1 (0,0))∧W.heap[w.heap.size + 1]? = some (.cells #[b] t2 (0,0))∧Below w.heap.size w W:=by
  rw [hW]
  refine ⟨blk_alloc (blk_new w _) _,?_,below_alloc (below_alloc (Below.refl _ _) _) _⟩
  have:=blk_new (w.alloc (.cells #[a] t1)) (.cells #[b] t2 (0,0))
  simpa using this
theorem product_Quick_ok (A1:Option Addr) (c1:Nat) (l1:List Int) (A2:Option Addr) (c2:Nat) (l2:List Int) (w:World)
    (hr1:Kd.C (Kd.int .u64) w A1 l1.length l1) (hc1:l1.length≤c1) (hr2:Kd.C (Kd.int .u64) w A2 l2.length l2) (hc2:l2.length≤c2)
    (h1:l1.all wd = true) (h2:l2.all wd = true) (h3:l1.length≤300) (h4:l2.length≤300) (hz:¬ num 18446744073709551616 l2 = 0) :
    Calls Try.prog 124 #[.slice A1 l1.length c1,.slice A2 l2.length c2] w fun e w' => ∃ v0_ v1_:Value,e = .returned (.tuple #[v0_,v1_,.int .i64 0])∧Kd.R (Kd.int .u64) 24 w' w.heap.size (fun _ => True) v0_ (dgs 18446744073709551616 l1.length (num 18446744073709551616 l1 / num 18446744073709551616 l2))∧Kd.R (Kd.int .u64) 24 w' w.heap.size (fun _ => True) v1_ (dgs 18446744073709551616 l2.length (num 18446744073709551616 l1 % num 18446744073709551616 l2))∧Below w.heap.size w w':=by
  obtain ⟨w0,hw0⟩:∃ w0:World,w0 = (w.alloc (.cells #[.slice A1 l1.length c1] 23)).alloc (.cells #[.slice A2 l2.length c2] 23):=⟨_,rfl⟩
  obtain ⟨b1,b2,hB⟩:=qk_boxes w _ _ _ _ w0 hw0
  have HD:=Aside0.mk (show ∀ w1:World,Below w0.heap.size w0 w1→_ from fun w1 hw1 => Quick1_ok A1 c1 l1 A2 c2 l2 w.heap.size (w.heap.size + 1) _ _ w1 (blk_below b1 hw1) (blk_below b2 hw1) (Kd.C_below hr1 (below_then hB hB.size hw1)) hc1 (Kd.C_below hr2 (below_then hB hB.size hw1)) hc2 (wd_all.1 h1) (wd_all.1 h2) h3 h4 hz)
  have HL:=Aside0.mk (divided_ret _ _ _ _ w0 (fun _ => rfl) HD.out)
  have HB:=Aside0.mk hB
  clear b1 b2 hB hr1 hr2 HD
  go_enter Try.func124,Try.ntmps124
  go_wp2_with fail
  rw [← hw0]
  refine HL.out.mono ?_
  rintro e w4 ⟨v0,v1,rfl,h5,h6,h7⟩
  obtain ⟨Aq,cq,eq⟩:=Kd.R_slice h5
  subst eq
  obtain ⟨Ar,cr,er⟩:=Kd.R_slice h6
  subst er
  have H5:=Aside0.mk (And.intro h5 (And.intro h6 h7))
  clear h5 h6 h7
  go_wp2
  go_ret3
  exact ⟨_,_,rfl,Kd.R_mono (Kd.R_lower H5.out.1 HB.out.size) (fun _ _ => trivial),Kd.R_mono (Kd.R_lower H5.out.2.1 HB.out.size) (fun _ _ => trivial),below_then HB.out HB.out.size H5.out.2.2⟩
theorem product_Quick_zero (A1:Option Addr) (c1:Nat) (l1:List Int) (A2:Option Addr) (c2:Nat) (l2:List Int) (w:World)
    (hr1:Kd.C (Kd.int .u64) w A1 l1.length l1) (hc1:l1.length≤c1) (hr2:Kd.C (Kd.int .u64) w A2 l2.length l2) (hc2:l2.length≤c2)
    (h1:l1.all wd = true) (h2:l2.all wd = true) (h3:l1.length≤300) (h4:l2.length≤300) (hz:num 18446744073709551616 l2 = 0) :
    Calls Try.prog 124 #[.slice A1 l1.length c1,.slice A2 l2.length c2] w fun e w' => ∃ v0_ v1_:Value,e = .returned (.tuple #[v0_,v1_,.int .i64  1])∧Kd.R (Kd.int .u64) 24 w' w.heap.size (fun _ => True) v0_ []∧Kd.R (Kd.int .u64) 24 w' w.heap.size (fun _ => True) v1_ []∧Below w.heap.size w w':=by
  obtain ⟨w0,hw0⟩:∃ w0:World,w0 = (w.alloc (.cells #[.slice A1 l1.length c1] 23)).alloc (.cells #[.slice A2 l2.length c2] 23):=⟨_,rfl⟩
  obtain ⟨b1,b2,hB⟩:=qk_boxes w _ _ _ _ w0 hw0
  have HD:=Aside0.mk (show ∀ w1:World,Below w0.heap.size w0 w1→_ from fun w1 hw1 => Quick1_throw 1 A1 c1 l1 A2 c2 l2 w.heap.size (w.heap.size + 1) _ _ w1 (blk_below b1 hw1) (blk_below b2 hw1) (asked_zero A1 c1 l1 A2 c2 l2 w1 (Kd.C_below hr1 (below_then hB hB.size hw1)) hc1 (Kd.C_below hr2 (below_then hB hB.size hw1)) hc2 (wd_all.1 h2) h3 h4 hz))
  have HL:=Aside0.mk (divided_throw _ _ _ w0 (fun _ => rfl) HD.out)
  have HB:=Aside0.mk hB
  clear b1 b2 hB hr1 hr2 HD
  go_enter Try.func124,Try.ntmps124
  go_wp2_with fail
  rw [← hw0]
  refine HL.out.mono ?_
  rintro e w4 ⟨rfl,h7⟩
  have H7:=Aside0.mk h7
  clear h7
  go_wp2
  go_ret3
  exact ⟨_,_,rfl,Kd.R_nil _ _ _ _ _,Kd.R_nil _ _ _ _ _,below_then HB.out HB.out.size H7.out⟩
theorem product_Quick_long (A1:Option Addr) (c1:Nat) (l1:List Int) (A2:Option Addr) (c2:Nat) (l2:List Int) (w:World)
    (hr1:Kd.C (Kd.int .u64) w A1 l1.length l1) (hc1:l1.length≤c1) (hr2:Kd.C (Kd.int .u64) w A2 l2.length l2) (hc2:l2.length≤c2)
    (h3:l1.length≤1000000) (h4:l2.length≤1000000) (hl:300 < l1.length∨300 < l2.length) :
    Calls Try.prog 124 #[.slice A1 l1.length c1,.slice A2 l2.length c2] w fun e w' => ∃ v0_ v1_:Value,e = .returned (.tuple #[v0_,v1_,.int .i64  2])∧Kd.R (Kd.int .u64) 24 w' w.heap.size (fun _ => True) v0_ []∧Kd.R (Kd.int .u64) 24 w' w.heap.size (fun _ => True) v1_ []∧Below w.heap.size w w':=by
  obtain ⟨w0,hw0⟩:∃ w0:World,w0 = (w.alloc (.cells #[.slice A1 l1.length c1] 23)).alloc (.cells #[.slice A2 l2.length c2] 23):=⟨_,rfl⟩
  obtain ⟨b1,b2,hB⟩:=qk_boxes w _ _ _ _ w0 hw0
  have HD:=Aside0.mk (show ∀ w1:World,Below w0.heap.size w0 w1→_ from fun w1 hw1 => Quick1_throw 2 A1 c1 l1 A2 c2 l2 w.heap.size (w.heap.size + 1) _ _ w1 (blk_below b1 hw1) (blk_below b2 hw1) (asked_long A1 c1 l1 A2 c2 l2 w1 (Kd.C_below hr1 (below_then hB hB.size hw1)) hc1 (Kd.C_below hr2 (below_then hB hB.size hw1)) hc2 hl))
  have HL:=Aside0.mk (divided_throw _ _ _ w0 (fun _ => rfl) HD.out)
  have HB:=Aside0.mk hB
  clear b1 b2 hB hr1 hr2 HD
  go_enter Try.func124,Try.ntmps124
  go_wp2_with fail
  rw [← hw0]
  refine HL.out.mono ?_
  rintro e w4 ⟨rfl,h7⟩
  have H7:=Aside0.mk h7
  clear h7
  go_wp2
  go_ret3
  exact ⟨_,_,rfl,Kd.R_nil _ _ _ _ _,Kd.R_nil _ _ _ _ _,below_then HB.out HB.out.size H7.out⟩
end Go.Proofs.Ytonpekldcnankaa.X
end
section
namespace Go.Proofs.Ytonpekldcnankaa.X
open Go.RowKit Go.Proofs.YtonpekldcnankaaW.PrintWords Go.Proofs.YtonpekldcnankaaW.PrintLast Go.Proofs.YtonpekldcnankaaW.PrintMore
attribute [local go_sem] max2_int min2_int max_two min_two max_three min_three max_four min_four
set_option linter.unusedVariables false
set_option linter.unusedSimpArgs false
def product_Quick.f (l1 l2:List Int):Option (List Int × List Int × Int) :=
 if (l1.all Ma.wd = true∧l2.all Ma.wd = true)∧l1.length≤1000000∧l2.length≤1000000 then
  if 300 < l1.length∨300 < l2.length then some ([],[],2)
  else if Ma.num 18446744073709551616 l2 = 0 then some ([],[],1)
  else some (Ma.dgs 18446744073709551616 l1.length (Ma.num 18446744073709551616 l1 / Ma.num 18446744073709551616 l2),Ma.dgs 18446744073709551616 l2.length (Ma.num 18446744073709551616 l1 % Ma.num 18446744073709551616 l2),0)
 else none
theorem product_Quick.calls (A1:Option Addr) (c1:Nat) (l1:List Int) (A2:Option Addr) (c2:Nat) (l2:List Int) (r1 r2:List Int) (r3:Int) (w:World) (hr1:Kd.C (Kd.int .u64) w A1 l1.length l1) (hc1:l1.length≤c1) (hr2:Kd.C (Kd.int .u64) w A2 l2.length l2) (hc2:l2.length≤c2) (h:product_Quick.f l1 l2 = some (r1,r2,r3)) :
  Calls Try.prog 124 #[.slice A1 l1.length c1,.slice A2 l2.length c2] w fun e w' => ∃ v0_ v1_:Value,e = .returned (.tuple #[v0_,v1_,.int .i64 r3])∧Kd.R (Kd.int .u64) 24 w' w.heap.size (fun _ => True) v0_ r1∧Kd.R (Kd.int .u64) 24 w' w.heap.size (fun _ => True) v1_ r2∧Below w.heap.size w w':=by
 unfold product_Quick.f at h
 split at h
 ·
  rename_i hc
  obtain ⟨⟨h1,h2⟩,h3,h4⟩:=hc
  split at h
  ·
   rename_i hl
   simp only [Option.some.injEq,Prod.mk.injEq] at h
   obtain ⟨rfl,rfl,rfl⟩:=h
   exact product_Quick_long A1 c1 l1 A2 c2 l2 w hr1 hc1 hr2 hc2 h3 h4 hl
  ·
   rename_i hl
   split at h
   ·
    rename_i hz
    simp only [Option.some.injEq,Prod.mk.injEq] at h
    obtain ⟨rfl,rfl,rfl⟩:=h
    exact product_Quick_zero A1 c1 l1 A2 c2 l2 w hr1 hc1 hr2 hc2 h1 h2 (by omega) (by omega) hz
   ·
    rename_i hz
    simp only [Option.some.injEq,Prod.mk.injEq] at h
    obtain ⟨rfl,rfl,rfl⟩:=h
    exact product_Quick_ok A1 c1 l1 A2 c2 l2 w hr1 hc1 hr2 hc2 h1 h2 (by omega) (by omega) hz
 ·
  exact absurd h (by simp)
end Go.Proofs.Ytonpekldcnankaa.X
end
section
namespace Go.Proofs.Ytonpekldcnankaa.X
open Go.RowKit Go.Proofs.YtonpekldcnankaaW.PrintWords Go.Proofs.YtonpekldcnankaaW.PrintLast Go.Proofs.YtonpekldcnankaaW.PrintMore
attribute [local go_sem] max2_int min2_int max_two min_two max_three min_three max_four min_four
set_option linter.unusedVariables false
set_option linter.unusedSimpArgs false
def word_Inverse.l0:Nat→Int→Int→Int→Option (Int)
 | 0,_,_,_ => none
 | k + 1,x0,x3,x7 => if x7 < 4 then (word_Inverse.l0 k x0 (IntKind.u64.wrap (x3 * (IntKind.u64.wrap (2 - (IntKind.u64.wrap (x0 * x3)))))) (wrap64 (x7 + 1))) else ((word_Mask.f x0).bind fun t228 => (some (Go.bits .and .u64 x3 t228)))
def word_Inverse.f (k:Nat) (a0:Int):Option (Int):=word_Inverse.l0 k a0 (Go.bits .xor .u64 (IntKind.u64.wrap (a0 * 3)) 2) 0
theorem word_Inverse.mono_l:∀ k,(∀ y0 y1 y2,LeO (word_Inverse.l0 k y0 y1 y2) (word_Inverse.l0 (k + 1) y0 y1 y2))
 | 0 => fun _ _ _ r h => by simp [word_Inverse.l0] at h
 | k + 1 => by
  have ih0:=word_Inverse.mono_l k
  ·
   intro y0 y1 y2
   unfold word_Inverse.l0
   repeat' first
   | (with_reducible exact ih0 _ _ _)
   | (with_reducible exact LeO.refl _)
   | (with_reducible exact LeO.none _)
   | (with_reducible refine LeO.ite ?_ ?_)
   | (with_reducible refine LeO.bind ?_ (fun _ => ?_))
   | exact ih0 _ _ _
   | exact LeO.none _
   | refine LeO.ite ?_ ?_
   | refine LeO.bind ?_ (fun _ => ?_)
theorem word_Inverse.mono:∀ a0 k,LeO (word_Inverse.f k a0) (word_Inverse.f (k + 1) a0):=by
 intro a0 k
 have ih0:=word_Inverse.mono_l k
 unfold word_Inverse.f
 repeat' first
   | (with_reducible exact ih0 _ _ _)
   | (with_reducible exact LeO.refl _)
   | (with_reducible exact LeO.none _)
   | (with_reducible refine LeO.ite ?_ ?_)
   | (with_reducible refine LeO.bind ?_ (fun _ => ?_))
   | exact ih0 _ _ _
   | exact LeO.none _
   | refine LeO.ite ?_ ?_
   | refine LeO.bind ?_ (fun _ => ?_)
theorem word_Inverse.calls (k:Nat) (a0:Int) (r:Int) (w:World) (h:word_Inverse.f k a0 = some r) :
  Calls Try.prog 154 #[.int .u64 a0] w fun e w' => e = .returned (.int .u64 r)∧Drawn0 w w':=by
 have H:(word_Inverse.l0 k a0 (Go.bits .xor .u64 (IntKind.u64.wrap (a0 * 3)) 2) 0) = some r:=h
 clear h
 have H':=Aside0.mk H
 clear H
 go_enter Try.func154,Try.ntmps154
 go_wp2
 go_loopg [3,7] k (fun kq v3 v7 w' => ∃ (x3_1:Int) (x7_1:Int),v3 = .int .u64 x3_1∧v7 = .int .i64 x7_1∧Aside0 (word_Inverse.l0 kq a0 x3_1 x7_1 = some r)∧Aside0 (kq≤k)∧Drawn0 w w')
 case atStart => exact ⟨(Go.bits .xor .u64 (IntKind.u64.wrap (a0 * 3)) 2),(0),(by first | rfl | (simp;done) | (simp [*];done)),(by first | rfl | (simp;done) | (simp [*];done)),H',⟨Nat.le_refl _⟩,by repeat (first | exact Drawn0.refl _ | apply Drawn0.step)⟩
 case round =>
  clear H'
  try clear c1
  obtain ⟨x3_1,x7_1,rfl,rfl,HA,HK1,⟨m1,rfl⟩⟩:=hrel
  cases gk with
  | zero => exact absurd HA.out (by simp [word_Inverse.l0])
  | succ k1 =>
   have H:=HA.out
   clear HA
   simp only [word_Inverse.l0] at H
   by_cases c2:x7_1 < 4
   ·
    rw [if_pos c2] at H
    have c2b0:decide (x7_1 < 4) = true:=decide_eq_true c2
    clear c2
    have H':=Aside0.mk H
    clear H
    go_wp2
    go_roundg k1
    case measure => have:=HK1.out;omega
    case rel => exact ⟨(IntKind.u64.wrap (x3_1 * (IntKind.u64.wrap (2 - (IntKind.u64.wrap (a0 * x3_1)))))),(wrap64 (x7_1 + 1)),(by first | rfl | (simp;done) | (simp [*];done)),(by first | rfl | (simp;done) | (simp [*];done)),H',⟨by have:=HK1.out;omega⟩,by repeat (first | exact Drawn0.refl _ | apply Drawn0.step)⟩
   ·
    rw [if_neg c2] at H
    have c2b0:decide (x7_1 < 4) = false:=decide_eq_false c2
    clear c2
    replace H:=Option.bind_eq_some_iff.mp H
    obtain ⟨t228,A30,H⟩:=H
    replace H:(some (Go.bits .and .u64 x3_1 t228)) = some r:=H
    have A3:=Aside0.mk A30
    clear A30
    obtain rfl:=Option.some.inj H
    go_wp2_with (first | ((with_reducible refine gate_callee (f:=141) rfl ?_);refine goesL_ (some 18) rfl rfl Try.func141 (by kernel_rfl) rfl #[.int .u64 a0] rfl vA ?_;(with_reducible refine (word_Mask.calls a0 t228 _ A3.out).mono ?_);rintro e w' ⟨rfl,⟨nd,rfl⟩⟩;refine ⟨_,rfl,?_⟩))
    go_ret
    exact ⟨by first | rfl | (simp;done) | (simp [*];done),by repeat (first | exact Drawn0.refl _ | apply Drawn0.step)⟩
def mont_power.f (l0:List Int) (a1:Int):Option (List Int):=if 0≤(wrap64 (a1 + 1)) then (if (wrap64 (a1 + 1):Int).toNat≤35184372088832 then ((some (List.replicate (wrap64 (a1 + 1):Int).toNat 0:List Int)).bind fun y229 => (if 0≤a1 then (if a1 < (y229.length:Int) then ((product_Quick.f (y229.set (a1:Int).toNat 1) l0).bind fun bt233 => (some bt233.2.1)) else (none)) else (none))) else (none)) else (none)
theorem mont_power.calls (A0:Option Addr) (c0:Nat) (l0:List Int) (a1:Int) (r:List Int) (w:World) (hr0:Kd.C (Kd.int .u64) w A0 l0.length l0) (hc0:l0.length≤c0) (h:mont_power.f l0 a1 = some r) :
  Calls Try.prog 155 #[.slice A0 l0.length c0,.int .i64 a1] w fun e w' => ∃ v0_:Value,e = .returned (v0_)∧Kd.R (Kd.int .u64) 24 w' w.heap.size (fun _ => True) v0_ r∧Below w.heap.size w w':=by
 have HR0:=Aside0.mk hr0
 have HC0:=Aside0.mk hc0
 clear hr0 hc0
 have HB:=Aside0.mk (Below.refl w.heap.size w)
 have H:(if 0≤(wrap64 (a1 + 1)) then (if (wrap64 (a1 + 1):Int).toNat≤35184372088832 then ((some (List.replicate (wrap64 (a1 + 1):Int).toNat 0:List Int)).bind fun y229 => (if 0≤a1 then (if a1 < (y229.length:Int) then ((product_Quick.f (y229.set (a1:Int).toNat 1) l0).bind fun bt233 => (some bt233.2.1)) else (none)) else (none))) else (none)) else (none)) = some r:=h
 clear h
 obtain ⟨ji3,hji3⟩:∃ j_:Int,(wrap64 (a1 + 1)) = j_:=⟨_,rfl⟩
 replace H:(if 0≤(ji3) then (if (ji3:Int).toNat≤35184372088832 then ((some (List.replicate (ji3:Int).toNat 0:List Int)).bind fun y229 => (if 0≤a1 then (if a1 < (y229.length:Int) then ((product_Quick.f (y229.set (a1:Int).toNat 1) l0).bind fun bt233 => (some bt233.2.1)) else (none)) else (none))) else (none)) else (none)) = some r:=by first | (rw [hji3] at H;exact H) | (simp only [hji3] at H ⊢;exact H)
 have hji3w:(IntKind.i64.wrap (a1 + 1)) = ji3:=(i64_w _).trans hji3
 by_cases c4:0≤(ji3)
 ·
  rw [if_pos c4] at H
  have c4b0:=eq_true c4
  have c4b1:decide (0≤(ji3)) = true:=decide_eq_true c4
  clear c4
  by_cases c5:(ji3:Int).toNat≤35184372088832
  ·
   rw [if_pos c5] at H
   have c5b0:=eq_true c5
   have c5b1:decide ((ji3:Int).toNat≤35184372088832) = true:=decide_eq_true c5
   clear c5
   obtain ⟨y229,hy229⟩:∃ y_:List Int,y_ = (List.replicate (ji3:Int).toNat 0):=⟨_,rfl⟩
   replace H:(if 0≤a1 then (if a1 < (y229.length:Int) then ((product_Quick.f (y229.set (a1:Int).toNat 1) l0).bind fun bt233 => (some bt233.2.1)) else (none)) else (none)) = some r:=by first | (rw [hy229];with_reducible exact H) | (have H2_:=(Option.bind_some _ _).symm.trans H;rw [hy229];with_reducible exact H2_) | (have H2_:=(Option.bind_some _ _).symm.trans H;with_reducible exact H2_) | with_reducible exact H | (rw [hy229];exact H) | exact H
   have Ny229:=Aside0.mk hy229
   clear hy229
   by_cases c6:0≤a1
   ·
    rw [if_pos c6] at H
    have c6b0:decide (0≤a1) = true:=decide_eq_true c6
    clear c6
    by_cases c7:a1 < (y229.length:Int)
    ·
     rw [if_pos c7] at H
     have c7b0:decide (a1 < (y229.length:Int)) = true:=decide_eq_true c7
     clear c7
     obtain ⟨y232,hy232⟩:∃ y_:List Int,y_ = (y229.set (a1:Int).toNat 1):=⟨_,rfl⟩
     replace H:((product_Quick.f y232 l0).bind fun bt233 => (some bt233.2.1)) = some r:=by first | (rw [hy232];with_reducible exact H) | (have H2_:=(Option.bind_some _ _).symm.trans H;rw [hy232];with_reducible exact H2_) | (have H2_:=(Option.bind_some _ _).symm.trans H;with_reducible exact H2_) | with_reducible exact H | (rw [hy232];exact H) | exact H
     have Ny232:=Aside0.mk hy232
     clear hy232
     replace H:=Option.bind_eq_some_iff.mp H
     obtain ⟨⟨t233,t234,t235⟩,A90,H⟩:=H
     replace H:(some t234) = some r:=H
     have A9:=Aside0.mk A90
     clear A90
     obtain rfl:=Option.some.inj H
     go_enter Try.func155,Try.ntmps155
     go_wp2_with (first | ((with_reducible refine gate_dst (N:=11) rfl ?_);refine Kd.R_make (Kd.int .u64) _ 24 rfl (N:=11) rfl 23 _ _ rfl ji3 rfl rfl Try.underlying23 (.int .u64 0) 8 info24 rfl (by decide) (by omega) 0 (ok:=fun _ => True) (okp:=fun _ => True) rfl (fun _ hk => hk) trivial (of_decide_eq_true vD) (Nat.le_trans (Nat.mul_le_mul_right _ (of_decide_eq_true vD:ji3.toNat≤35184372088832)) (by omega)) (Below.refl _ _) (Nat.le_refl _) ?_;intro v230 w10 ho11 hb hg_ hnew_;clear hg_ hnew_;(first | rw [← Ny229.out] at ho11 | (simp only [Int.reduceToNat] at ho11;rw [← Ny229.out] at ho11));have n0_:=Aside0.mk (Kd.R_lower ho11 (below_size (vB HB.out)));have n1_:=Aside0.mk (below_step (vB HB.out) hb);clear HB;have HO231:=n0_;have HB:=n1_;clear n0_ n1_;clear hb ho11;have p8:0≤(a1:Int):=of_decide_eq_true vD;have q8:(a1:Int) < ((y229.length:Int):Int):=of_decide_eq_true vD;obtain ⟨go8,co8,eo8,gb8,gl8,cl8,HG8⟩:=Kd.R_form HO231.out (by omega);(first | cases eo8 | (injection eo8 with ea_ en_ ec_;(first | subst ea_ | (injection ea_ with ea_;subst ea_));subst ec_;clear en_));have GB8:=Aside0.mk gb8;have GG8:=Aside0.mk HG8;clear gb8 gl8 HG8;obtain ⟨hx8_0,hf8_0⟩:=Kd.R_celln 0 HO231.out (a1:Int) p8 q8;replace p8:=eq_true p8;replace q8:=eq_true q8;obtain ⟨hy12_,hz12_⟩:=Kd.R_celln 0 HO231.out (a1:Int) (of_decide_eq_true vD) (of_decide_eq_true vD);have HP12:=Kd.R_putg HO231.out (a1:Int) 1) | ((with_reducible refine gate_store (t:=24) (p:=14) rfl ?_);refine store_event (t:=24) (p:=14) (v:=?vo_w13) (w1:=(w10.setCell ⟨go8,(a1:Int).toNat,none⟩ (.int .u64 1))) ?hg ?ho ?hn ?hr ?_;(case ho => rfl);(case hg => rfl);(case hn => rfl);(case hr => first | (go_simp;done) | (go_simp;rfl));intro w13 hw;have hg:w10.grownBy w13 (some go8):=(by rw [hw];exact HP12.2);have hp_:Kd.R (Kd.int .u64) 24 w13 w.heap.size (fun _ => True) (.slice (some ⟨go8,0,none⟩) y229.length co8) y232:=(by rw [hw,Ny232.out];exact HP12.1);clear HP12;have n0_:=Aside0.mk (hp_);have n1_:=Aside0.mk ((by rw [hw];exact below_set (HB.out) GB8.out:Below w.heap.size w w13));clear HO231;clear HB;have HO231:=n0_;have HB:=n1_;clear n0_ n1_;clear hg hw hp_) | ((with_reducible refine gate_callee (f:=124) rfl ?_);refine goesL_ (some 18) rfl rfl Try.func124 (by kernel_rfl) rfl #[.slice (some ⟨go8,0,none⟩) y232.length co8,.slice A0 l0.length c0] rfl (by (try simp only [List.map_toArray,List.map_cons,List.map_nil]);first | done | (rw [show y232.length = y229.length from (Kd.R_reads' HO231.out).1.symm] <;> rfl) | rfl | (simp only [List.length_drop,List.length_take];rfl)) ?_;(with_reducible refine (product_Quick.calls _ _ y232 _ _ l0 t233 t234 t235 _ ?side1 ?side2 ?side3 ?side4 A9.out).mono ?_);(case side1 => repeat (first | exact (Kd.R_reads' HO231.out).2.2 | (with_reducible refine Kd.C_alloc ?_ _) | (with_reducible refine Kd.C_drewN ?_ _) | (with_reducible refine Kd.C_drew ?_)));(case side2 => rw [show y232.length = y229.length from (Kd.R_reads' HO231.out).1.symm];exact (Kd.R_reads' HO231.out).2.1);(case side3 => repeat (first | exact (Kd.C_below HR0.out HB.out) | (with_reducible refine Kd.C_alloc ?_ _) | (with_reducible refine Kd.C_drewN ?_ _) | (with_reducible refine Kd.C_drew ?_)));(case side4 => exact HC0.out);rintro e w14 ⟨v236,v238,rfl,ho0,ho1,hb⟩;refine ⟨_,rfl,?_⟩;have n0_:=Aside0.mk (Kd.R_mono (Kd.R_told (Kd.R_told (Kd.R_old (vR HO231.out) hb) (Kd.R_base ho0)) (Kd.R_base ho1)) (fun _ h_ => h_.1));have n1_:=Aside0.mk (Kd.R_lower (Kd.R_new' ho0 (Kd.R_lt (vR HO231.out))) (below_size (vB HB.out)));have n2_:=Aside0.mk (Kd.R_lower (Kd.R_new' ho1 (Kd.R_lt (vR HO231.out))) (below_size (vB HB.out)));have n3_:=Aside0.mk (below_step (vB HB.out) hb);clear HO231;clear HB;have HO231:=n0_;have HO237:=n1_;have HO239:=n2_;have HB:=n3_;clear n0_ n1_ n2_ n3_;(try clear hb);(try clear hb2);(try clear hk);(try clear hi);(try clear ho0);(try clear ho1)))
     go_ret
     exact ⟨_,by first | rfl | (simp [errW_none,errW_some] <;> rfl) | (simp only [← hji3];first | rfl | (simp [errW_none,errW_some] <;> rfl)) | (simp [*,errW_none,errW_some] <;> rfl),by (with_reducible repeat (first | apply Kd.R_alloc | apply Kd.R_drewN | apply Kd.R_drew));exact Kd.R_mono HO239.out (fun _ hk => trivial),by repeat (first | (with_reducible first | exact HB.out | apply below_alloc | apply pw_below_drewN | apply below_drew1) | exact HB.out)⟩
    ·
     rw [if_neg c7] at H
     exact absurd H (by simp)
   ·
    rw [if_neg c6] at H
    exact absurd H (by simp)
  ·
   rw [if_neg c5] at H
   exact absurd H (by simp)
 ·
  rw [if_neg c4] at H
  exact absurd H (by simp)
end Go.Proofs.Ytonpekldcnankaa.X
end
