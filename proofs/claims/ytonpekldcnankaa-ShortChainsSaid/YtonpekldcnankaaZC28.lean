/- Texts of the walk and of the plain laws, laid together by a program: L2. -/
import Derived.Test.YtonpekldcnankaaZC25
import Derived.Test.YtonpekldcnankaaZC27
namespace Go.Proofs.Ytonpekldcnankaa.X
open Go.RowKit Go.Proofs.YtonpekldcnankaaW.PrintWords Go.Proofs.YtonpekldcnankaaW.PrintLast Go.Proofs.YtonpekldcnankaaW.PrintMore Go.Proofs.Ytonpekldcnankaa.Ma
set_option linter.unusedVariables false
set_option linter.unusedSimpArgs false
theorem R_one {w:World} {base:Nat} {ok:Nat→Prop} {g L c:Nat} {xs:List Int} (h:Kd.R (Kd.int .u64) 24 w base ok (.slice (some ⟨g,0,none⟩) L c) xs):Kd.R (Kd.int .u64) 24 w base (fun k => k = g) (.slice (some ⟨g,0,none⟩) L c) xs :=
  Kd.R_mono (Kd.R_tight rfl h) (fun k hk => by simpa [Value.ownBlock] using hk)
theorem lq_norm {M n:Nat} (hn:0 < n) (hM:M < 18446744073709551616 ^ n) (ht:0 < M / 18446744073709551616 ^ (n - 1)):64 - bl (M / 18446744073709551616 ^ (n - 1)) < 64∧M * 2 ^ (64 - bl (M / 18446744073709551616 ^ (n - 1))) < 18446744073709551616 ^ n∧bl (M / 18446744073709551616 ^ (n - 1))≤64∧M / 18446744073709551616 ^ (n - 1) < 18446744073709551616:=by
  have hB:0 < 18446744073709551616 ^ (n - 1):=Nat.pow_pos (by decide)
  have e:18446744073709551616 ^ n = 18446744073709551616 * 18446744073709551616 ^ (n - 1):=by rw [← Nat.pow_succ',show (n - 1).succ = n by omega]
  have h1:M / 18446744073709551616 ^ (n - 1) < 18446744073709551616:=by rw [Nat.div_lt_iff_lt_mul hB,← e];exact hM
  have h2:=Nat.lt_mul_div_succ M hB
  generalize hm:M / 18446744073709551616 ^ (n - 1) = t at *
  have h3:t < 2 ^ bl t:=bl_lt t
  have h4:bl t≤64:=bl_le (by exact h1)
  have h5:0 < bl t:=by
    rcases Nat.eq_zero_or_pos (bl t) with h | h
    · rw [h] at h3;omega
    · exact h
  refine ⟨by omega,?_,h4,h1⟩
  have hpp:2 ^ bl t * 2 ^ (64 - bl t) = 18446744073709551616:=by rw [← Nat.pow_add,show bl t + (64 - bl t) = 64 by omega]
  calc M * 2 ^ (64 - bl t) < (18446744073709551616 ^ (n - 1) * (t + 1)) * 2 ^ (64 - bl t):=Nat.mul_lt_mul_of_pos_right h2 (Nat.pow_pos (by decide))
    _≤(18446744073709551616 ^ (n - 1) * 2 ^ bl t) * 2 ^ (64 - bl t):=Nat.mul_le_mul_right _ (Nat.mul_le_mul_left _ h3)
    _ = 18446744073709551616 ^ n:=by rw [Nat.mul_assoc,hpp,e,Nat.mul_comm]
theorem wds_zero_snoc {L X:Nat} (h:X < 18446744073709551616 ^ L):wds L X ++ [0] = wds (L + 1) X:=by
  show dgs _ _ _ ++ _ = dgs _ _ _
  rw [dgs_snoc,Nat.div_eq_of_lt h]
  rfl
theorem lq_start {A X V la L n s K:Nat} (hn:0 < n) (hA:A < 18446744073709551616 ^ la) (hX:X = A * 2 ^ s) (hV:18446744073709551616 ^ (n - 1) * 2 ^ s≤V) (hK:K + n = L) (hL:la + 2≤L):lqU X V K = X∧lqQ X V K = 0∧X < 18446744073709551616 ^ la * V:=by
  have h1:X < 18446744073709551616 ^ la * 2 ^ s:=by rw [hX];exact Nat.mul_lt_mul_of_pos_right hA (Nat.pow_pos (by decide))
  have h2:2 ^ s≤18446744073709551616 ^ (n - 1) * 2 ^ s:=Nat.le_mul_of_pos_left _ (Nat.pow_pos (by decide))
  have h3:X < 18446744073709551616 ^ K * V:=by
    refine Nat.lt_of_lt_of_le h1 (Nat.le_trans ?_ (Nat.mul_le_mul_left _ hV))
    rw [← Nat.mul_assoc,← Nat.pow_add]
    exact Nat.mul_le_mul_right _ (Nat.pow_le_pow_right (by decide) (by omega))
  have h4:X / 18446744073709551616 ^ K < V:=by rw [Nat.div_lt_iff_lt_mul (Nat.pow_pos (by decide)),Nat.mul_comm];exact h3
  refine ⟨?_,?_,Nat.lt_of_lt_of_le h1 (Nat.mul_le_mul_left _ (Nat.le_trans h2 hV))⟩
  · unfold lqU
    rw [Nat.mod_eq_of_lt h4,Nat.mul_comm]
    exact Nat.div_add_mod _ _
  · unfold lqQ
    rw [Nat.div_eq_of_lt h4,Nat.zero_mul]
def LqI (w0:World) (gq cq la gr cr lr gv cv n gu c L X V k:Nat) (wr:World):Prop :=
  Kd.R (Kd.int .u64) 24 wr w0.heap.size (fun k_ => k_ = gq) (.slice (some ⟨gq,0,none⟩) la cq) (wds la (lqQ X V k))∧Kd.R (Kd.int .u64) 24 wr w0.heap.size (fun k_ => k_ = gr) (.slice (some ⟨gr,0,none⟩) lr cr) (wds lr 0) ∧
  Kd.R (Kd.int .u64) 24 wr w0.heap.size (fun k_ => k_ = gv) (.slice (some ⟨gv,0,none⟩) n cv) (wds n V)∧Kd.R (Kd.int .u64) 24 wr w0.heap.size (fun k_ => k_ = gu) (.slice (some ⟨gu,0,none⟩) L c) (wds L (lqU X V k))∧Below w0.heap.size w0 wr
theorem LqI.below {w0 wr w':World} {gq cq la gr cr lr gv cv n gu c L X V k:Nat} (h:LqI w0 gq cq la gr cr lr gv cv n gu c L X V k wr) (hb:Below wr.heap.size wr w'):LqI w0 gq cq la gr cr lr gv cv n gu c L X V k w' :=
  ⟨Kd.R_below h.1 hb,Kd.R_below h.2.1 hb,Kd.R_below h.2.2.1 hb,Kd.R_below h.2.2.2.1 hb,below_then h.2.2.2.2 h.2.2.2.2.size hb⟩
theorem LqI.taken {w0 wr w':World} {gq cq la gr cr lr gv cv n gu c L X V k:Nat} (hne:gq≠gu∧gr≠gu∧gv≠gu∧w0.heap.size≤gu) (hV:0 < V) (hVn:V < 18446744073709551616 ^ n) (hL:k + (n + 1)≤L) (hX:X < 18446744073709551616 ^ la * V) (hka:la≤k)
    (h:LqI w0 gq cq la gr cr lr gv cv n gu c L X V (k + 1) wr) (hg:wr.grownBy w' (some gu))
    (hu:Kd.R (Kd.int .u64) 24 w' w0.heap.size (fun k_ => k_ = gu) (.slice (some ⟨gu,0,none⟩) L c) (splW (wds L (lqU X V (k + 1))) k (n + 1) (lqP X V k - V * (lqP X V k / V)))) :
    LqI w0 gq cq la gr cr lr gv cv n gu c L X V k w':=by
  rw [lq_splice hV hVn hL] at hu
  refine ⟨?_,Kd.R_grown h.2.1 hg (fun k hk e => hne.2.1 (by rw [← hk];exact Option.some.inj e)),Kd.R_grown h.2.2.1 hg (fun k hk e => hne.2.2.1 (by rw [← hk];exact Option.some.inj e)),hu,pw_below_grown h.2.2.2.2 (some gu) h.2.2.2.2.size hg (fun k hk2 => by cases hk2;exact hne.2.2.2)⟩
  have:=Kd.R_grown h.1 hg (fun k hk e => hne.1 (by rw [← hk];exact Option.some.inj e))
  rw [(lq_none hV hX (show la≤k + 1 by omega)).1] at this
  rw [(lq_none hV hX hka).1]
  exact this
theorem LqI.laid {w0 wr w':World} {gq cq la gr cr lr gv cv n gu c L X V k:Nat} (hne:gq≠gu∧gr≠gu∧gv≠gu∧w0.heap.size≤gu) (hnq:gr≠gq∧gv≠gq∧w0.heap.size≤gq) (hV:0 < V) (hVn:V < 18446744073709551616 ^ n) (hL:k + (n + 1)≤L) (hka:k < la)
    (h:LqI w0 gq cq la gr cr lr gv cv n gu c L X V (k + 1) wr) (hg:wr.grownBy w' (some gu))
    (hu:Kd.R (Kd.int .u64) 24 w' w0.heap.size (fun k_ => k_ = gu) (.slice (some ⟨gu,0,none⟩) L c) (splW (wds L (lqU X V (k + 1))) k (n + 1) (lqP X V k - V * (lqP X V k / V)))) :
    (∃ x:Int,w'.cell? ⟨gq,k,none⟩ = some (.int .u64 x))∧w'.frozen? ⟨gq,k,none⟩ = false∧LqI w0 gq cq la gr cr lr gv cv n gu c L X V k (w'.setCell ⟨gq,k,none⟩ (.int .u64 ((lqP X V k / V:Nat):Int))):=by
  rw [lq_splice hV hVn hL] at hu
  have h1:=Kd.R_grown h.1 hg (fun k hk e => hne.1 (by rw [← hk];exact Option.some.inj e))
  have h2:=Kd.R_grown h.2.1 hg (fun k hk e => hne.2.1 (by rw [← hk];exact Option.some.inj e))
  have h3:=Kd.R_grown h.2.2.1 hg (fun k hk e => hne.2.2.1 (by rw [← hk];exact Option.some.inj e))
  have h5:=pw_below_grown h.2.2.2.2 (some gu) h.2.2.2.2.size hg (fun k hk2 => by cases hk2;exact hne.2.2.2)
  obtain ⟨hx,hf⟩:=Kd.R_celln 0 h1 (k:Int) (by omega) (by omega)
  obtain ⟨hP,hQ⟩:=Kd.R_putg h1 (k:Int) ((lqP X V k / V:Nat):Int)
  rw [Int.toNat_natCast] at hx hf hP hQ
  rw [lq_set hV hka] at hP
  exact ⟨⟨_,hx⟩,hf,hP,Kd.R_grown h2 hQ (fun k hk e => hnq.1 (by rw [← hk];exact Option.some.inj e)),Kd.R_grown h3 hQ (fun k hk e => hnq.2.1 (by rw [← hk];exact Option.some.inj e)),Kd.R_grown hu hQ (fun k hk e => hne.1 (by rw [← hk];exact (Option.some.inj e).symm)),pw_below_grown h5 (some gq) h5.size hQ (fun k hk2 => by cases hk2;exact hnq.2.2)⟩
theorem lq_taken_no {w0 W:World} {gq cq la gr cr lr gv cv n gu c L X V k:Nat} (h:LqI w0 gq cq la gr cr lr gv cv n gu c L X V (k + 1) W) (hV:0 < V) (hVn:V < 18446744073709551616 ^ n) (hL:k + (n + 1)≤L) (hLc:L≤c) (hncv:n≤cv) (hn:n≤300) (g:Nat) (hg:lqP X V k / V < g) (hgB:g < 18446744073709551616) :
    Calls Try.prog 181 #[.slice (some ⟨gu,k,none⟩) (n + 1) (c - k),.slice (some ⟨gv,0,none⟩) n cv,.int .u64 (g:Int)] W fun e w' => e = .returned (.bool false)∧Below W.heap.size W w':=by
  obtain ⟨hp1,hp2⟩:=lq_piece (X:=X) hV hVn hL
  have hv:=(Kd.R_reads' h.2.2.1).2.2
  have e:(wds n V).length = n:=dgs_length _ _ _
  have hh:=taken_no gu L c k (c - k) _ _ _ (some ⟨gv,0,none⟩) cv (wds n V) g W h.2.2.2.1 (by rw [e];omega) (by rw [e];omega) hv (by rw [e];exact hncv) (wds_Wd _ _) (wds_Wd _ _) (by rw [e];omega) hgB (by rw [e,hp2,nW_wds hVn,Nat.mul_comm];exact (Nat.div_lt_iff_lt_mul hV).1 hg)
  rw [e] at hh
  exact hh
theorem lq_taken_yes {w0 W:World} {gq cq la gr cr lr gv cv n gu c L X V k:Nat} (h:LqI w0 gq cq la gr cr lr gv cv n gu c L X V (k + 1) W) (hV:0 < V) (hVn:V < 18446744073709551616 ^ n) (hL:k + (n + 1)≤L) (hLc:L≤c) (hncv:n≤cv) (hn:n≤300) (g:Nat) (hg:g = lqP X V k / V) (hgB:g < 18446744073709551616) :
    Calls Try.prog 181 #[.slice (some ⟨gu,k,none⟩) (n + 1) (c - k),.slice (some ⟨gv,0,none⟩) n cv,.int .u64 (g:Int)] W fun e w' => e = .returned (.bool true)∧Kd.R (Kd.int .u64) 24 w' w0.heap.size (fun k_ => k_ = gu) (.slice (some ⟨gu,0,none⟩) L c) (splW (wds L (lqU X V (k + 1))) k (n + 1) (lqP X V k - V * (lqP X V k / V)))∧W.grownBy w' (some gu):=by
  obtain ⟨hp1,hp2⟩:=lq_piece (X:=X) hV hVn hL
  have hv:=(Kd.R_reads' h.2.2.1).2.2
  have e:(wds n V).length = n:=dgs_length _ _ _
  have hh:=taken_yes gu L c k (c - k) _ _ _ (some ⟨gv,0,none⟩) cv (wds n V) g W h.2.2.2.1 (by rw [e];omega) (by rw [e];omega) hv (by rw [e];exact hncv) (wds_Wd _ _) (wds_Wd _ _) (by rw [e];omega) hgB (by rw [e,hp2,nW_wds hVn,hg];exact Nat.mul_div_le _ _)
  rw [e,hp2,nW_wds hVn,hg] at hh
  rw [hg]
  exact hh
abbrev LsI (w0:World) (gq cq la gr cr lr gu c L Qv Xv:Nat) (row:List Int) (wx:World):Prop :=
  Kd.R (Kd.int .u64) 24 wx w0.heap.size (fun k_ => k_ = gq) (.slice (some ⟨gq,0,none⟩) la cq) (wds la Qv)∧Kd.R (Kd.int .u64) 24 wx w0.heap.size (fun k_ => k_ = gr) (.slice (some ⟨gr,0,none⟩) lr cr) row∧Kd.R (Kd.int .u64) 24 wx w0.heap.size (fun k_ => k_ = gu) (.slice (some ⟨gu,0,none⟩) L c) (wds L Xv)∧Below w0.heap.size w0 wx
theorem LsI.set {w0 wx:World} {gq cq la gr cr lr gu c L Qv Xv i:Nat} {row:List Int} (h:LsI w0 gq cq la gr cr lr gu c L Qv Xv row wx) (hq:gq≠gr) (hu:gu≠gr) (hw:w0.heap.size≤gr) (hi:i < lr) (v:Int) :
    wx.cell? ⟨gr,i,none⟩ = some (.int .u64 (at0 row i))∧wx.frozen? ⟨gr,i,none⟩ = false∧LsI w0 gq cq la gr cr lr gu c L Qv Xv (row.set i v) (wx.setCell ⟨gr,i,none⟩ (.int .u64 v)):=by
  obtain ⟨hx,hf⟩:=Kd.R_celln 0 h.2.1 (i:Int) (by omega) (by omega)
  obtain ⟨hP,hQ⟩:=Kd.R_putg h.2.1 (i:Int) v
  rw [Int.toNat_natCast] at hx hf hP hQ
  refine ⟨?_,hf,Kd.R_grown h.1 hQ (fun k hk e => hq (by rw [← hk];exact Option.some.inj e)),hP,Kd.R_grown h.2.2.1 hQ (fun k hk e => hu (by rw [← hk];exact Option.some.inj e)),pw_below_grown h.2.2.2 (some gr) h.2.2.2.size hQ (fun k hk2 => by cases hk2;exact hw)⟩
  rw [hx]
  show some (Value.int .u64 (rdOf 0 _ _)) = _
  unfold rdOf at0
  rw [Int.toNat_natCast]
theorem LsI.word {w0 wx:World} {gq cq la gr cr lr gu c L Qv Xv i:Nat} {row:List Int} (h:LsI w0 gq cq la gr cr lr gu c L Qv Xv row wx) (hi:i < L):wx.cell? ⟨gu,i,none⟩ = some (.int .u64 ((Xv / 18446744073709551616 ^ i % 18446744073709551616:Nat):Int)):=by
  obtain ⟨hx,hf⟩:=Kd.R_celln 0 h.2.2.1 (i:Int) (by omega) (by omega)
  rw [Int.toNat_natCast] at hx
  have h2:=at0_dgs (B:=18446744073709551616) Xv hi
  rw [hx,← h2]
  show some (Value.int .u64 (rdOf 0 _ _)) = _
  unfold rdOf at0
  rw [Int.toNat_natCast]
set_option maxHeartbeats 4000000 in
set_option maxRecDepth 100000 in
theorem long2_ok (gq cq la gr cr lr:Nat) (A1:Option Addr) (c1:Nat) (l1:List Int) (A2:Option Addr) (c2:Nat) (l2:List Int) (w0 w:World)
    (hB:Below w0.heap.size w0 w) (hq:Kd.R (Kd.int .u64) 24 w w0.heap.size (fun k_ => w0.heap.size≤k_) (.slice (some ⟨gq,0,none⟩) la cq) (wds la 0)) (hr:Kd.R (Kd.int .u64) 24 w w0.heap.size (fun k_ => w0.heap.size≤k_) (.slice (some ⟨gr,0,none⟩) lr cr) (wds lr 0)) (hne:gq≠gr)
    (hr1:Kd.C (Kd.int .u64) w A1 l1.length l1) (hc1:l1.length≤c1) (hr2:Kd.C (Kd.int .u64) w A2 l2.length l2) (hc2:l2.length≤c2) (h1:Wd l1) (h2:Wd l2) (hla:l1.length = la) (hl1:l1.length≤300) (hl2:l2.length≤300) (hl3:2≤l2.length) (hlr:l2.length≤lr) (hlr2:lr≤300) (hz:0 < nW l2 / 18446744073709551616 ^ (l2.length - 1)) :
    Calls Try.prog 168 #[.slice (some ⟨gq,0,none⟩) la cq,.slice (some ⟨gr,0,none⟩) lr cr,.slice A1 l1.length c1,.slice A2 l2.length c2] w fun e w' => e = .returned (.tuple #[]) ∧
      Kd.R (Kd.int .u64) 24 w' w0.heap.size (fun k_ => k_ = gq) (.slice (some ⟨gq,0,none⟩) la cq) (wds la (nW l1 / nW l2))∧Kd.R (Kd.int .u64) 24 w' w0.heap.size (fun k_ => k_ = gr) (.slice (some ⟨gr,0,none⟩) lr cr) (wds lr (nW l1 % nW l2))∧Below w0.heap.size w0 w':=by
  obtain ⟨mt,hmt⟩:∃ x,x = nW l2 / 18446744073709551616 ^ (l2.length - 1):=⟨_,rfl⟩
  obtain ⟨hs,hVn,hbl,hmtl⟩:=lq_norm (by omega) (nW_lt h2) hz
  rw [← hmt] at hs hVn hbl hmtl hz
  obtain ⟨s,hse⟩:∃ s,s = 64 - bl mt:=⟨_,rfl⟩
  have hL0:=sp_LeadingZeros hmtl
  rw [← hse] at hs hVn hL0
  obtain ⟨V,hVe⟩:∃ V,V = nW l2 * 2 ^ s:=⟨_,rfl⟩
  obtain ⟨X,hXe⟩:∃ X,X = nW l1 * 2 ^ s:=⟨_,rfl⟩
  have hat:at0 l2 (l2.length - 1) = (mt:Int):=by
    have:=at0_num (B:=18446744073709551616) (by decide) h2 (l2.length - 1)
    rw [show num 18446744073709551616 l2 = nW l2 from rfl,← hmt,Nat.mod_eq_of_lt hmtl] at this
    exact this
  obtain ⟨m1,hm1⟩:∃ m1:Nat,m1 = l2.length - 1:=⟨_,rfl⟩
  have p1:IntKind.i64.wrap ((l2.length:Int) - 1) = (m1:Int):=by rw [i64_w,w64 (by omega) (by omega)];omega
  rw [← hm1] at hat
  have hS2:=fun W hW => shifted_ok A2 c2 l2 s W (Kd.C_below hr2 hW) hc2 h2 hl2 hs
  have hS1:=fun W hW => shifted_ok A1 c1 l1 s W (Kd.C_below hr1 hW) hc1 h1 hl1 hs
  rw [← hVe] at hS2 hVn
  rw [← hXe] at hS1
  have hXn:X < 18446744073709551616 ^ (l1.length + 1):=by
    rw [hXe,Nat.pow_succ]
    refine Nat.mul_lt_mul'' (nW_lt h1) ?_
    exact Nat.lt_of_lt_of_le (Nat.pow_lt_pow_right (by decide) hs) (by decide)
  obtain ⟨ad,hA,hxc⟩:=Kd.at_int hr2 (m1:Int) (by omega) (by omega)
  rw [rdA,Int.toNat_natCast,hat] at hxc
  subst hA
  have hm1l:m1 < l2.length:=by omega
  have hm1i:(m1:Int) < (l2.length:Int):=by omega
  have HS2:=Aside0.mk hS2
  have HS1:=Aside0.mk hS1
  have HL0:=Aside0.mk hL0
  have HQ:=Aside0.mk hq
  have HR:=Aside0.mk hr
  have HB:=Aside0.mk hB
  have HW:=Aside0.mk h1
  have HF:=Aside0.mk (show V = nW l2 * 2 ^ s∧X = nW l1 * 2 ^ s∧V < 18446744073709551616 ^ l2.length∧X < 18446744073709551616 ^ (l1.length + 1)∧mt = nW l2 / 18446744073709551616 ^ (l2.length - 1)∧0 < mt∧m1 = l2.length - 1∧l1.length = la from ⟨hVe,hXe,hVn,hXn,hmt,hz,hm1,hla⟩)
  clear hS1 hS2 hL0 hq hr hB hVe hXe hVn hXn hmt hz hm1 hse hbl hmtl hat hr1 hr2 h1 h2 hla
  go_enter Try.func168,Try.ntmps168
  go_upto_region 4 with (first
    | (go_at_call 179;(with_reducible refine (bits_LeadingZeros64.calls _ _ _ HL0.out).mono ?_);rintro e w1 ⟨rfl,⟨nd,rfl⟩⟩;have HB1:=Aside0.mk (pw_below_drewN (Below.refl w.heap.size w) nd))
    | (go_at_call 180;(with_reducible refine (HS2.out _ HB1.out).mono ?_);rintro e w2 ⟨Av,cv,rfl,h5,h6⟩;obtain ⟨gv,cv',e8,hgv1,hgv2,_⟩:=Kd.R_form h5 (by rw [dgs_length];omega);rw [dgs_length] at e8;cases e8;have hcv:l2.length≤cv:=(by have:=(Kd.R_reads' h5).2.1;omega);have HV2:=Aside0.mk (Kd.R_lower h5 HB1.out.size);have HB2:=Aside0.mk (below_then HB1.out HB1.out.size h6);clear h5 h6)
    | (go_at_call 180;(with_reducible refine (HS1.out _ HB2.out).mono ?_);rintro e w3 ⟨Au,cu,rfl,h5,h6⟩;have HU3:=Aside0.mk h5;have HB3:=Aside0.mk h6;clear h5 h6)
    | ((with_reducible refine gate_dst (N:=29) rfl ?_);refine Kd.R_lit (Kd.int .u64) _ 24 ?hg (N:=29) ?hd (xs:=([0]:List Int)) (inner:=[.int .u64 0]) (ok:=fun _ => True) (okp:=fun _ => True) ?hr ?hp (fun _ hk => hk) trivial (Below.refl _ _) (Nat.le_refl _) (by simp) ?_;(case hd => rfl);(case hg => rfl);(case hr => first | (go_simp;done) | (go_simp;rfl));(case hp => exact (Reps.one (show Kd.M (Kd.int .u64) _ _ _ 0 [.int .u64 0] from rfl) (Reps.none _ _)));intro v4 w4 ho4 hb4 hg4 hn4;clear hg4 hn4;have HO4:=Aside0.mk ho4;have HB4:=Aside0.mk hb4;clear ho4 hb4;obtain ⟨A4,c4,e9⟩:=Kd.R_slice HO4.out;subst e9)
    | ((with_reducible refine gate_builtin (b:=.append) (xs:=#[.tmp 28,.tmp 29]) rfl ?_);at_builtin;refine Kd.R_append_rows (Kd.int .u64) (w0:=w2) w2.heap.size rfl (.tmp 28) (.tmp 29) 23 24 (.int .u64 0) 8 rfl Try.underlying23 info_u64 rfl (by decide) (by omega) (.slice Au (l1.length + 1) cu) (wds (l1.length + 1) X) [0] A4 1 c4 (fun _ => True) (fun _ => False) rfl rfl ?aO ?aR (fun _ _ h => h) (fun _ h => h.elim) (fun _ _ => trivial) ?aB ?aS ?aL ?_;(case aO => exact Kd.R_below HU3.out HB4.out);(case aR => exact (Kd.R_reads' HO4.out).2.2);(case aB => exact below_then HB3.out HB3.out.size HB4.out);(case aS => exact (below_then HB3.out HB3.out.size HB4.out).size);(case aL => rw [dgs_length];omega);intro v5 w5 ho5 hb5 hg5 hat5;rw [wds_zero_snoc HF.out.2.2.2.1] at ho5;have HU5:=Aside0.mk ho5;have HB5:=Aside0.mk hb5;clear ho5 hb5 hg5 hat5;obtain ⟨gu,c5,e9,_,_,_⟩:=Kd.R_form HU5.out (by rw [dgs_length];omega);rw [dgs_length] at e9;subst e9))
  obtain ⟨n1,hn1⟩:∃ n1:Nat,n1 = l2.length + 1:=⟨_,rfl⟩
  have p2:IntKind.i64.wrap ((l2.length:Int) + 1) = (n1:Int):=by rw [i64_w,w64 (by omega) (by omega)];omega
  obtain ⟨T,hT1,hT2,hT3⟩:∃ T:Nat,l1.length + 2≤T∧n1≤T∧T≤302:=⟨max (l1.length + 2) n1,Nat.le_max_left _ _,Nat.le_max_right _ _,Nat.max_le.2 ⟨by omega,by omega⟩⟩
  have hgvw:w.heap.size≤gv:=Nat.le_trans HB1.out.size hgv1
  have HV:=Aside0.mk (show Kd.R (Kd.int .u64) 24 w2 w.heap.size (fun k => k = gv) (.slice (some ⟨gv,0,none⟩) l2.length cv) (wds l2.length V) from by
    have:=R_one (Kd.R_take HV2.out (show l2.length≤(wds (l2.length + 1) V).length by rw [dgs_length];omega))
    rw [lq_take _ (by omega)] at this
    exact this)
  clear HV2 HS1 HS2 HL0 HO4 HB4 HB3 HU3 hxc
  go_loopg [11] (T - l1.length - 1) (fun q v11 wr => ∃ L gu c,L + q = T + 1∧L≤T∧l1.length + 2≤L∧v11 = .slice (some ⟨gu,0,none⟩) L c∧Aside0 (Kd.R (Kd.int .u64) 24 wr w2.heap.size (fun _ => True) (.slice (some ⟨gu,0,none⟩) L c) (wds L X))∧Aside0 (Below w2.heap.size w2 wr))
  case atStart => exact ⟨_,_,_,by omega,by omega,by omega,rfl,HU5,HB5⟩
  case round =>
    clear HU5 HB5
    obtain ⟨L,gu,c,hLq,hLT,hLl,rfl,HU,HBU⟩:=hrel
    cases gk with
    | zero => omega
    | succ k1 =>
      by_cases hlt:L < n1
      · have d1:decide ((L:Int) < (n1:Int)) = true:=decide_eq_true (by omega)
        have d2:decide (L < n1) = true:=decide_eq_true hlt
        have HXL:=Aside0.mk (show X < 18446744073709551616 ^ L from Nat.lt_of_lt_of_le HF.out.2.2.2.1 (Nat.pow_le_pow_right (by decide) (by omega)))
        go_wp2_with (first
          | ((with_reducible refine gate_dst (N:=40) rfl ?_);refine Kd.R_lit (Kd.int .u64) _ 24 ?hg (N:=40) ?hd (xs:=([0]:List Int)) (inner:=[.int .u64 0]) (ok:=fun _ => True) (okp:=fun _ => True) ?hr ?hp (fun _ hk => hk) trivial (Below.refl _ _) (Nat.le_refl _) (by simp) ?_;(case hd => rfl);(case hg => rfl);(case hr => first | (go_simp;done) | (go_simp;rfl));(case hp => exact (Reps.one (show Kd.M (Kd.int .u64) _ _ _ 0 [.int .u64 0] from rfl) (Reps.none _ _)));intro v4 w4 ho4 hb4 hg4 hn4;clear hg4 hn4;have HO4:=Aside0.mk ho4;have HB4:=Aside0.mk hb4;clear ho4 hb4;obtain ⟨A4,c4,e9⟩:=Kd.R_slice HO4.out;subst e9)
          | ((with_reducible refine gate_builtin (b:=.append) (xs:=#[.tmp 39,.tmp 40]) rfl ?_);at_builtin;refine Kd.R_append_rows (Kd.int .u64) (w0:=w2) w2.heap.size rfl (.tmp 39) (.tmp 40) 23 24 (.int .u64 0) 8 rfl Try.underlying23 info_u64 rfl (by decide) (by omega) (.slice (some ⟨gu,0,none⟩) L c) (wds L X) [0] A4 1 c4 (fun _ => True) (fun _ => False) rfl rfl ?aO ?aR (fun _ _ h => h) (fun _ h => h.elim) (fun _ _ => trivial) ?aB ?aS ?aL ?_;(case aO => exact Kd.R_below HU.out HB4.out);(case aR => exact (Kd.R_reads' HO4.out).2.2);(case aB => exact below_then HBU.out HBU.out.size HB4.out);(case aS => exact (below_then HBU.out HBU.out.size HB4.out).size);(case aL => rw [dgs_length];omega);intro v5 w5 ho5 hb5 hg5 hat5;rw [wds_zero_snoc HXL.out] at ho5;have HU5:=Aside0.mk ho5;have HB5:=Aside0.mk hb5;clear ho5 hb5 hg5 hat5;obtain ⟨gu5,c5,e9,_,_,_⟩:=Kd.R_form HU5.out (by rw [dgs_length];omega);rw [dgs_length] at e9;subst e9))
        go_roundg k1
        case measure => omega
        case rel => exact ⟨_,_,_,by omega,by omega,by omega,rfl,HU5,HB5⟩
      · have d1:decide ((L:Int) < (n1:Int)) = false:=decide_eq_false (by omega)
        have d2:decide (L < n1) = false:=decide_eq_false hlt
        obtain ⟨K,hK⟩:∃ K:Nat,K + l2.length = L:=⟨L - l2.length,by omega⟩
        have p3:IntKind.i64.wrap ((L:Int) - (l2.length:Int)) = (K:Int):=by rw [i64_w,w64 (by omega) (by omega)];omega
        obtain ⟨j0,hj0⟩:∃ j:Int,j = (K:Int) - 1:=⟨_,rfl⟩
        have p4:IntKind.i64.wrap ((K:Int) - 1) = j0:=by rw [i64_w,w64 (by omega) (by omega)];omega
        have HJ:=Aside0.mk (show j0 + 1 = (K:Int) by omega)
        clear hj0
        go_upto_region 7 with (fail)
        have hgqw:gq < w.heap.size:=Kd.R_lt HQ.out gq rfl
        have hgrw:gr < w.heap.size:=Kd.R_lt HR.out gr rfl
        have hgq0:w0.heap.size≤gq:=HQ.out.1 gq rfl
        have hgr0:w0.heap.size≤gr:=HR.out.1 gr rfl
        have hgu2:w2.heap.size≤gu:=((Kd.R_bound HU.out).1 gu rfl).2.1
        have hB02:=below_then HB.out HB.out.size HB2.out
        have h02:=hB02.size
        have h0w:=HB.out.size
        have HD:=Aside0.mk (show (gq≠gu∧gr≠gu∧gv≠gu∧w0.heap.size≤gu)∧(gr≠gq∧gv≠gq∧w0.heap.size≤gq)∧gv≠gr∧w0.heap.size≤gr from ⟨⟨by omega,by omega,by omega,by omega⟩,⟨fun h => hne h.symm,by omega,hgq0⟩,by omega,hgr0⟩)
        have hVge:18446744073709551616 ^ (l2.length - 1) * 2 ^ s≤V:=by
          rw [HF.out.1]
          refine Nat.mul_le_mul_right _ ?_
          have h5:=HF.out.2.2.2.2.2.1
          rw [HF.out.2.2.2.2.1] at h5
          have:=Nat.div_mul_le_self (nW l2) (18446744073709551616 ^ (l2.length - 1))
          exact Nat.le_trans (Nat.le_mul_of_pos_left _ h5) this
        have hVp:0 < V:=Nat.lt_of_lt_of_le (Nat.mul_pos (Nat.pow_pos (by decide)) (Nat.pow_pos (by decide))) hVge
        have hAl:nW l1 < 18446744073709551616 ^ la:=by rw [← HF.out.2.2.2.2.2.2.2];exact nW_lt HW.out
        obtain ⟨hs1,hs2,hs3⟩:=lq_start (L:=L) (K:=K) (by omega) hAl HF.out.2.1 hVge hK (by have:=HF.out.2.2.2.2.2.2.2;omega)
        have HI:=Aside0.mk (show LqI w0 gq cq la gr cr lr gv cv l2.length gu c L X V K wr from by
          refine ⟨?_,Kd.R_below (R_one HR.out) (below_then HB2.out HB2.out.size HBU.out),Kd.R_below (Kd.R_lower HV.out h0w) HBU.out,?_,below_then hB02 hB02.size HBU.out⟩
          · rw [hs2]
            exact Kd.R_below (R_one HQ.out) (below_then HB2.out HB2.out.size HBU.out)
          · rw [hs1]
            exact Kd.R_lower (R_one HU.out) h02)
        have HVL:=Aside0.mk (show 0 < V∧V < 18446744073709551616 ^ l2.length∧X < 18446744073709551616 ^ la * V∧0 < V / 18446744073709551616 ^ (l2.length - 1) from ⟨hVp,HF.out.2.2.1,hs3,Nat.div_pos (Nat.le_trans (Nat.le_mul_of_pos_right _ (Nat.pow_pos (by decide))) hVge) (Nat.pow_pos (by decide))⟩)
        clear hgqw hgrw hgq0 hgr0 hgu2 hB02 h02 h0w hVge hVp hAl hs1 hs2 hs3 HQ HR HV HU HBU HB2 HB hgvw hgv2 hgv1
        go_loopg [12] (K + 1) (fun q v12 wx => ∃ (k:Nat) (j:Int),k + 1 = q∧k≤K∧v12 = .int .i64 j∧Aside0 (j + 1 = (k:Int))∧Aside0 (LqI w0 gq cq la gr cr lr gv cv l2.length gu c L X V k wx))
        case atStart => exact ⟨K,j0,rfl,Nat.le_refl _,rfl,HJ,HI⟩
        case round =>
          clear HI
          obtain ⟨k,j,hkq,hkK,rfl,hj,HI⟩:=hrel
          rcases Nat.eq_zero_or_pos k with hk0 | hk0
          · subst hk0
            have hj':j = -1:=by have:=hj.out;omega
            subst hj'
            have d1:decide ((-1:Int) ≥ (0:Int)) = false:=rfl
            obtain ⟨R,hRe⟩:∃ R:Nat,R = nW l1 % nW l2:=⟨_,rfl⟩
            have hdn:=lq_done (A:=nW l1) (M:=nW l2) (s:=s) (Nat.pow_pos (by decide))
            rw [← HF.out.1,← HF.out.2.1,← hRe] at hdn
            obtain ⟨i1,i2,i3,i4,i5⟩:=HI.out
            rw [hdn.2] at i1
            rw [hdn.1] at i4
            have hMz:0 < nW l2:=Nat.pos_of_ne_zero (fun h => by have:=HF.out.2.2.2.2.2.1;rw [HF.out.2.2.2.2.1,h,Nat.zero_div] at this;omega)
            have hRs:R * 2 ^ s < 18446744073709551616 ^ l2.length:=by
              refine Nat.lt_of_le_of_lt (Nat.mul_le_mul_right _ (show R≤nW l2 from ?_)) (by have:=HF.out.2.2.1;rw [HF.out.1] at this;exact this)
              rw [hRe]
              exact Nat.le_of_lt (Nat.mod_lt _ hMz)
            rw [show wds lr 0 = List.replicate lr 0 from dgs_zero _] at i2
            have HZ:=Aside0.mk (show R = nW l1 % nW l2∧R * 2 ^ s < 18446744073709551616 ^ l2.length∧R < 18446744073709551616 ^ l2.length from ⟨hRe,hRs,Nat.lt_of_le_of_lt (Nat.le_mul_of_pos_right _ (Nat.pow_pos (by decide))) hRs⟩)
            have HI2:=Aside0.mk (And.intro i1 (And.intro i2 (And.intro i4 i5)))
            clear hdn i1 i2 i3 i4 i5 hMz hRs HI hRe
            go_wp2
            go_loopg [107] (l2.length + 1) (fun q v107 wx => ∃ i:Nat,v107 = .int .i64 (i:Int)∧Aside0 (i + q = l2.length + 1∧i≤l2.length)∧Aside0 (Kd.R (Kd.int .u64) 24 wx w0.heap.size (fun k_ => k_ = gq) (.slice (some ⟨gq,0,none⟩) la cq) (wds la (nW l1 / nW l2))∧Kd.R (Kd.int .u64) 24 wx w0.heap.size (fun k_ => k_ = gr) (.slice (some ⟨gr,0,none⟩) lr cr) (wds i R ++ List.replicate (lr - i) 0)∧Kd.R (Kd.int .u64) 24 wx w0.heap.size (fun k_ => k_ = gu) (.slice (some ⟨gu,0,none⟩) L c) (wds L (R * 2 ^ s))∧Below w0.heap.size w0 wx))
            case atStart => exact ⟨0,rfl,⟨by omega,by omega⟩,HI2⟩
            case round =>
              clear HI2
              obtain ⟨i,rfl,hi,HI2⟩:=hrel
              obtain ⟨ki,hki⟩:∃ ki,gk = ki + 1:=⟨gk - 1,by have:=hi.out;omega⟩
              subst hki
              by_cases hlt2:i < l2.length
              · have d5:decide ((i:Int) < (l2.length:Int)) = true:=decide_eq_true (by omega)
                have d6:decide (i < l2.length) = true:=decide_eq_true hlt2
                have hiL:i < L:=by omega
                have hiLi:(i:Int) < (L:Int):=by omega
                have hir:i < lr:=by omega
                have hiri:(i:Int) < (lr:Int):=by omega
                have hS:=run_shr64 (((R * 2 ^ s / 18446744073709551616 ^ i % 18446744073709551616:Nat):Int)) s hs
                have hx:=LsI.word HI2.out hiL
                obtain ⟨ui,hui⟩:∃ x:Int,x = ((R * 2 ^ s / 18446744073709551616 ^ i % 18446744073709551616:Nat):Int):=⟨_,rfl⟩
                rw [← hui] at hx hS
                obtain ⟨hy,hyf,hI5⟩:=LsI.set HI2.out hne (fun h => HD.out.1.2.1 h.symm) HD.out.2.2.2 hir (ui / 2 ^ s)
                have hlen:(wds i R ++ List.replicate (lr - i) 0).length = lr:=dgs_full_length R (by omega)
                obtain ⟨y,hyy⟩:∃ y:Int,y = at0 (wds i R ++ List.replicate (lr - i) 0) i:=⟨_,rfl⟩
                rw [← hyy] at hy
                obtain ⟨n2,hn2⟩:∃ n2:Nat,n2 = i + 1:=⟨_,rfl⟩
                have p9:IntKind.i64.wrap ((i:Int) + 1) = (n2:Int):=by rw [i64_w,w64 (by omega) (by omega)];omega
                have HN2:=Aside0.mk hn2
                by_cases hcc:0 < s∧i + 1 < l2.length
                · obtain ⟨hs0,hn2l⟩:=hcc
                  have hn2L:i + 1 < L:=by omega
                  have hz:=LsI.word hI5 hn2L
                  obtain ⟨un,hun⟩:∃ x:Int,x = ((R * 2 ^ s / 18446744073709551616 ^ (i + 1) % 18446744073709551616:Nat):Int):=⟨_,rfl⟩
                  rw [← hun] at hz
                  obtain ⟨r6,hr6⟩:∃ r:Nat,r = 64 - s:=⟨_,rfl⟩
                  have p10:IntKind.i64.wrap (64 - (s:Int)) = (r6:Int):=by rw [i64_w,w64 (by omega) (by omega)];omega
                  have hr6l:r6 < 64:=by omega
                  have hshl:=run_shl64 un r6 hr6l
                  have hbits:=lq_bits R i s hs0 hs
                  rw [← hui,← hun,← hr6] at hbits
                  obtain ⟨hy6,hyf6,hI6⟩:=LsI.set hI5 hne (fun h => HD.out.1.2.1 h.symm) HD.out.2.2.2 hir (Go.bits .or .u64 (ui / 2 ^ s) (IntKind.u64.wrap (un * 2 ^ r6)))
                  rw [at0_set (by rw [hlen];exact hir),if_pos rfl] at hy6
                  have hset:((wds i R ++ List.replicate (lr - i) (0:Int)).set i (ui / 2 ^ s)).set i (Go.bits .or .u64 (ui / 2 ^ s) (IntKind.u64.wrap (un * 2 ^ r6))) = wds (i + 1) R ++ List.replicate (lr - (i + 1)) 0:=by
                    rw [List.set_set]
                    exact dgs_set R hir _ hbits
                  rw [hset,← hn2] at hI6
                  have HI6:=Aside0.mk (show LsI w0 gq cq la gr cr lr gu c L (nW l1 / nW l2) (R * 2 ^ s) (wds n2 R ++ List.replicate (lr - n2) 0) _ from ⟨Kd.R_below hI6.1 (Below.drew (Below.refl _ _)),Kd.R_below hI6.2.1 (Below.drew (Below.refl _ _)),Kd.R_below hI6.2.2.1 (Below.drew (Below.refl _ _)),Below.drew hI6.2.2.2⟩)
                  rw [← hn2] at hz hn2L
                  have d7:decide ((s:Int) > (0:Int)) = true:=decide_eq_true (by omega)
                  have d8:decide ((n2:Int) < (l2.length:Int)) = true:=decide_eq_true (by omega)
                  have d9:decide (n2 < l2.length) = true:=decide_eq_true (by omega)
                  have d10:decide (0 < s) = true:=decide_eq_true hs0
                  have hn2i:(n2:Int) < (L:Int):=by omega
                  clear hn2 hI5 hI6 hset hbits hun hui hyy hlen hr6 hn2l
                  go_upto_region 21 with (fail)
                  go_region
                  go_wp2
                  go_roundg ki
                  case measure => omega
                  case rel => exact ⟨n2,rfl,⟨by have:=hi.out;have:=HN2.out;omega,by have:=HN2.out;omega⟩,HI6⟩
                · have hres:ui / 2 ^ s = ((R / 18446744073709551616 ^ i % 18446744073709551616:Nat):Int):=by
                    rw [hui]
                    refine lq_one R i s (by omega) ?_
                    rcases Nat.eq_zero_or_pos s with h0 | h0
                    · exact .inl h0
                    · refine .inr ?_
                      rw [show i + 1 = l2.length by omega]
                      exact HZ.out.2.1
                  have hset:(wds i R ++ List.replicate (lr - i) (0:Int)).set i (ui / 2 ^ s) = wds (i + 1) R ++ List.replicate (lr - (i + 1)) 0:=dgs_set R hir _ hres
                  rw [hset,← hn2] at hI5
                  have HI5:=Aside0.mk hI5
                  clear hI5 hres hui hyy hlen
                  by_cases hs0:0 < s
                  · have d7:decide ((s:Int) > (0:Int)) = true:=decide_eq_true (by omega)
                    have d8:decide ((n2:Int) < (l2.length:Int)) = false:=decide_eq_false (by omega)
                    have d9:decide (n2 < l2.length) = false:=decide_eq_false (by omega)
                    have d10:decide (0 < s) = true:=decide_eq_true hs0
                    clear hn2
                    go_wp2
                    go_roundg ki
                    case measure => omega
                    case rel => exact ⟨n2,rfl,⟨by have:=hi.out;have:=HN2.out;omega,by have:=HN2.out;omega⟩,HI5⟩
                  · have d7:decide ((s:Int) > (0:Int)) = false:=decide_eq_false (by omega)
                    have d10:decide (0 < s) = false:=decide_eq_false hs0
                    clear hn2
                    go_wp2
                    go_roundg ki
                    case measure => omega
                    case rel => exact ⟨n2,rfl,⟨by have:=hi.out;have:=HN2.out;omega,by have:=HN2.out;omega⟩,HI5⟩
              · have d5:decide ((i:Int) < (l2.length:Int)) = false:=decide_eq_false (by omega)
                have d6:decide (i < l2.length) = false:=decide_eq_false hlt2
                have hil:i = l2.length:=by have:=hi.out.2;omega
                have e5:wds i R ++ List.replicate (lr - i) 0 = wds lr (nW l1 % nW l2):=by
                  rw [hil,← HZ.out.1]
                  have e6:=dgs_append (B:=18446744073709551616) l2.length (lr - l2.length) R
                  rw [Nat.div_eq_of_lt HZ.out.2.2,dgs_zero,show l2.length + (lr - l2.length) = lr by omega] at e6
                  exact e6.symm
                have hR6:=HI2.out.2.1
                rw [e5] at hR6
                have HR6:=Aside0.mk hR6
                clear hR6 e5
                go_wp2
                go_end0
                exact ⟨rfl,HI2.out.1,HR6.out,HI2.out.2.2.2⟩
          · obtain ⟨k',rfl⟩:∃ k',k = k' + 1:=⟨k - 1,by omega⟩
            obtain rfl:j = (k':Int):=by have:=hj.out;omega
            obtain ⟨ko,hko⟩:∃ ko,gk = ko + 1:=⟨gk - 1,by omega⟩
            subst hko
            have HKQ:=Aside0.mk hkq
            clear hj hkq hk0
            obtain ⟨jm,hjm⟩:∃ jm:Int,jm = (k':Int) - 1:=⟨_,rfl⟩
            have pjm:IntKind.i64.wrap ((k':Int) - 1) = jm:=by rw [i64_w,w64 (by omega) (by omega)];omega
            have HJM:=Aside0.mk (show jm + 1 = (k':Int) by omega)
            clear hjm
            have d1:decide ((k':Int) ≥ (0:Int)) = true:=decide_eq_true (by omega)
            have d2:decide ((0:Int)≤(k':Int)) = true:=decide_eq_true (by omega)
            have hzL:k' + l2.length < L:=by omega
            obtain ⟨t1,t2,t3,t4⟩:=lq_tops (X:=X) (V:=V) (L:=L) (n:=l2.length) (k:=k') (by omega) HVL.out.1 HVL.out.2.1 (by omega)
            have hgu:=lq_guess (P:=lqP X V k') (n:=l2.length) (by omega) HVL.out.1 HVL.out.2.2.2
            have hPV:lqP X V k' / V < 18446744073709551616:=by rw [Nat.div_lt_iff_lt_mul HVL.out.1,Nat.mul_comm];exact lq_lt k' HVL.out.1
            obtain ⟨u1,hu1⟩:∃ x:Nat,x = lqP X V k' / 18446744073709551616 ^ l2.length:=⟨_,rfl⟩
            obtain ⟨u0,hu0⟩:∃ x:Nat,x = lqP X V k' / 18446744073709551616 ^ (l2.length - 1) % 18446744073709551616:=⟨_,rfl⟩
            obtain ⟨vt,hvt⟩:∃ x:Nat,x = V / 18446744073709551616 ^ (l2.length - 1):=⟨_,rfl⟩
            have hu0l:u0 < 18446744073709551616:=by rw [hu0];exact Nat.mod_lt _ (by decide)
            have hvtl:vt < 18446744073709551616:=by
              rw [hvt,Nat.div_lt_iff_lt_mul (Nat.pow_pos (by decide)),← Nat.pow_succ',show (l2.length - 1).succ = l2.length by omega]
              exact HVL.out.2.1
            rw [← hu1,← hu0] at t4
            rw [← hu1] at t1
            rw [← hu0] at t2
            rw [← hvt] at t3
            rw [← t4,← hvt] at hgu
            obtain ⟨z1,hz1⟩:∃ z:Nat,z = k' + l2.length:=⟨_,rfl⟩
            obtain ⟨z0,hz0⟩:∃ z:Nat,z = k' + l2.length - 1:=⟨_,rfl⟩
            have p5:IntKind.i64.wrap ((k':Int) + (l2.length:Int)) = (z1:Int):=by rw [i64_w,w64 (by omega) (by omega)];omega
            have p6:IntKind.i64.wrap ((z1:Int) - 1) = (z0:Int):=by rw [i64_w,w64 (by omega) (by omega)];omega
            have hz1L:z1 < L:=by omega
            have hz0L:z0 < L:=by omega
            rw [← hz1] at t1
            rw [← hz0] at t2
            have hm1e:=HF.out.2.2.2.2.2.2.1
            rw [← hm1e] at t3
            obtain ⟨hx1,_⟩:=Kd.R_celln 0 HI.out.2.2.2.1 (z1:Int) (by omega) (by omega)
            obtain ⟨hx0,_⟩:=Kd.R_celln 0 HI.out.2.2.2.1 (z0:Int) (by omega) (by omega)
            obtain ⟨hxv,_⟩:=Kd.R_celln 0 HI.out.2.2.1 (m1:Int) (by omega) (by omega)
            rw [Int.toNat_natCast] at hx1 hx0 hxv
            replace hx1:wr.cell? ⟨gu,z1,none⟩ = some (.int .u64 (u1:Int)):=by
              rw [hx1,← t1]
              show some (Value.int .u64 (rdOf 0 _ _)) = _
              unfold rdOf at0
              rw [Int.toNat_natCast]
            replace hx0:wr.cell? ⟨gu,z0,none⟩ = some (.int .u64 (u0:Int)):=by
              rw [hx0,← t2]
              show some (Value.int .u64 (rdOf 0 _ _)) = _
              unfold rdOf at0
              rw [Int.toNat_natCast]
            replace hxv:wr.cell? ⟨gv,m1,none⟩ = some (.int .u64 (vt:Int)):=by
              rw [hxv,← t3]
              show some (Value.int .u64 (rdOf 0 _ _)) = _
              unfold rdOf at0
              rw [Int.toNat_natCast]
            obtain ⟨Q,hQ⟩:∃ Q:Nat,Q = lqP X V k' / V:=⟨_,rfl⟩
            rw [← hQ] at hgu hPV
            have HG:=Aside0.mk (show Q = lqP X V k' / V∧Q≤(u1 * 18446744073709551616 + u0) / vt∧Q < 18446744073709551616∧u0 < 18446744073709551616∧vt < 18446744073709551616∧z1 = k' + l2.length from ⟨hQ,hgu,hPV,hu0l,hvtl,hz1⟩)
            have hz1i:(z1:Int) < (L:Int):=by omega
            have hz0i:(z0:Int) < (L:Int):=by omega
            clear t1 t2 t3 t4 hgu hPV hu1 hu0 hvt hu0l hvtl hz1 hz0 hQ hm1e
            go_upto_region 10 with (fail)
            by_cases hc:u1 < vt
            · have d3:decide ((u1:Int) < (vt:Int)) = true:=decide_eq_true (by omega)
              have d4:decide (u1 < vt) = true:=decide_eq_true hc
              go_region
              obtain ⟨kD,hkD⟩:=sp_Div64 hc HG.out.2.2.2.1 HG.out.2.2.2.2.1
              obtain ⟨q0,hq0⟩:∃ x:Nat,x = (u1 * 18446744073709551616 + u0) / vt:=⟨_,rfl⟩
              obtain ⟨r0,hr0⟩:∃ x:Nat,x = (u1 * 18446744073709551616 + u0) % vt:=⟨_,rfl⟩
              have hkD2:=hkD kD (Nat.le_refl _)
              have hG2:=HG.out.2.1
              rw [← hq0] at hkD2 hG2
              rw [← hr0] at hkD2
              have hq0l:q0 < 18446744073709551616:=by
                rw [hq0]
                refine Nat.div_lt_of_lt_mul ?_
                have h3:(u1 + 1) * 18446744073709551616≤vt * 18446744073709551616:=Nat.mul_le_mul_right _ hc
                have h4:=HG.out.2.2.2.1
                omega
              have HDv:=Aside0.mk (fun W:World => bits_Div64.calls kD (u1:Int) (u0:Int) (vt:Int) _ _ W hkD2)
              have HQ0:=Aside0.mk (And.intro hG2 hq0l)
              clear hkD hkD2 hG2 hq0l hq0 hr0
              go_upto_region 11 with (fail)
              go_cut [13] (fun s13 wx => ∃ g:Nat,s13 = .int .u64 (g:Int)∧Aside0 (Q≤g∧g < 18446744073709551616∧LqI w0 gq cq la gr cr lr gv cv l2.length gu c L X V (k' + 1) wx))
              case first =>
                go_region_with (go_at_call 167;(with_reducible refine (HDv.out _).mono ?_);rintro e w5 ⟨rfl,⟨nd5,rfl⟩⟩)
                all_goals (go_wp2;go_meet)
                all_goals exact ⟨q0,rfl,⟨HQ0.out.1,HQ0.out.2,LqI.below HI.out (pw_below_drewN (Below.refl _ _) _)⟩⟩
              case rest =>
                obtain ⟨g0,rfl,hcut⟩:=hcut
                have hLc:L≤c:=(Kd.R_reads' HI.out.2.2.2.1).2.1
                obtain ⟨i0,hi0,hi1⟩:=info_parts info_u64
                have hcp:=cut_piece (P:=Try.prog) 23 24 Try.underlying23 hi0 hi1.2.1 gu L c k' (l2.length + 1) (by omega) (by omega) hLc
                obtain ⟨z2,hz2⟩:∃ z:Nat,z = k' + (l2.length + 1):=⟨_,rfl⟩
                rw [← hz2] at hcp
                have p7:IntKind.i64.wrap ((z1:Int) + 1) = (z2:Int):=by have:=HG.out.2.2.2.2.2;rw [i64_w,w64 (by omega) (by omega)];omega
                have HTN:=Aside0.mk (fun (W:World) (g:Nat) (h:LqI w0 gq cq la gr cr lr gv cv l2.length gu c L X V (k' + 1) W) hg hgB => lq_taken_no h HVL.out.1 HVL.out.2.1 (by omega) hLc hcv (by omega) g hg hgB)
                have HTY:=Aside0.mk (fun (W:World) (g:Nat) (h:LqI w0 gq cq la gr cr lr gv cv l2.length gu c L X V (k' + 1) W) hg hgB => lq_taken_yes h HVL.out.1 HVL.out.2.1 (by omega) hLc hcv (by omega) g hg hgB)
                clear hz2 HI
                go_wp2
                go_loopg [13] (g0 - Q + 1) (fun q v13 wy => ∃ g:Nat,v13 = .int .u64 (g:Int)∧Aside0 (Q≤g∧g + 1 = Q + q∧g < 18446744073709551616∧LqI w0 gq cq la gr cr lr gv cv l2.length gu c L X V (k' + 1) wy))
                case atStart => exact ⟨g0,rfl,⟨hcut.out.1,by have:=hcut.out.1;omega,hcut.out.2.1,hcut.out.2.2⟩⟩
                case round =>
                  clear hcut
                  obtain ⟨g,rfl,hg⟩:=hrel
                  obtain ⟨ki,hki⟩:∃ ki,gk = ki + 1:=⟨gk - 1,by have:=hg.out;omega⟩
                  subst hki
                  rcases Nat.lt_or_ge Q g with hgQ | hgQ
                  · obtain ⟨g1,hg1⟩:∃ g1:Nat,g1 = g - 1:=⟨_,rfl⟩
                    have p8:IntKind.u64.wrap ((g:Int) - 1) = (g1:Int):=by have:=hg.out.2.2.1;rw [wU];omega
                    have HG1:=Aside0.mk (show g1 + 1 = g∧Q < g by omega)
                    clear hg1 hgQ
                    go_wp2_with (go_at_call 181;(with_reducible refine (HTN.out _ _ hg.out.2.2.2 (by rw [← HG.out.1];exact HG1.out.2) hg.out.2.2.1).mono ?_);rintro e w6 ⟨rfl,hb6⟩;have HB6:=Aside0.mk hb6;clear hb6)
                    go_roundg ki
                    case measure => omega
                    case rel => exact ⟨g1,rfl,⟨by have:=HG1.out;omega,by have:=HG1.out;have:=hg.out;omega,by have:=HG1.out;have:=hg.out;omega,LqI.below hg.out.2.2.2 HB6.out⟩⟩
                  · have hgq:g = lqP X V k' / V:=by rw [← HG.out.1];have:=hg.out.1;omega
                    have HGQ:=Aside0.mk hgq
                    clear hgq hgQ
                    by_cases hka:k' < la
                    · have d5:decide ((k':Int) < (la:Int)) = true:=decide_eq_true (by omega)
                      have d6:decide (k' < la) = true:=decide_eq_true hka
                      go_wp2_with (go_at_call 181;(with_reducible refine (HTY.out _ _ hg.out.2.2.2 HGQ.out hg.out.2.2.1).mono ?_);rintro e w6 ⟨rfl,h61,h62⟩;obtain ⟨⟨y6,hy6⟩,hf6,hI6⟩:=LqI.laid HD.out.1 HD.out.2.1 HVL.out.1 HVL.out.2.1 (by omega) hka hg.out.2.2.2 h62 h61;rw [← HGQ.out] at hI6;have HI6:=Aside0.mk hI6;clear h61 h62 hI6)
                      go_roundg ko
                      case measure => omega
                      case rel => exact ⟨k',jm,by have:=HKQ.out;omega,by omega,rfl,HJM,HI6⟩
                    · have d5:decide ((k':Int) < (la:Int)) = false:=decide_eq_false (by omega)
                      have d6:decide (k' < la) = false:=decide_eq_false hka
                      go_wp2_with (go_at_call 181;(with_reducible refine (HTY.out _ _ hg.out.2.2.2 HGQ.out hg.out.2.2.1).mono ?_);rintro e w6 ⟨rfl,h61,h62⟩;have HI6:=Aside0.mk (LqI.taken HD.out.1 HVL.out.1 HVL.out.2.1 (by omega) HVL.out.2.2.1 (by omega) hg.out.2.2.2 h62 h61);clear h61 h62)
                      go_roundg ko
                      case measure => omega
                      case rel => exact ⟨k',jm,by have:=HKQ.out;omega,by omega,rfl,HJM,HI6⟩
            · have d3:decide ((u1:Int) < (vt:Int)) = false:=decide_eq_false (by omega)
              have d4:decide (u1 < vt) = false:=decide_eq_false hc
              go_region
              have hcut:=Aside0.mk (show Q≤18446744073709551615∧18446744073709551615 < 18446744073709551616∧LqI w0 gq cq la gr cr lr gv cv l2.length gu c L X V (k' + 1) wr from ⟨by have:=HG.out.2.2.1;omega,by decide,HI.out⟩)
              have hLc:L≤c:=(Kd.R_reads' HI.out.2.2.2.1).2.1
              obtain ⟨i0,hi0,hi1⟩:=info_parts info_u64
              have hcp:=cut_piece (P:=Try.prog) 23 24 Try.underlying23 hi0 hi1.2.1 gu L c k' (l2.length + 1) (by omega) (by omega) hLc
              obtain ⟨z2,hz2⟩:∃ z:Nat,z = k' + (l2.length + 1):=⟨_,rfl⟩
              rw [← hz2] at hcp
              have p7:IntKind.i64.wrap ((z1:Int) + 1) = (z2:Int):=by have:=HG.out.2.2.2.2.2;rw [i64_w,w64 (by omega) (by omega)];omega
              have HTN:=Aside0.mk (fun (W:World) (g:Nat) (h:LqI w0 gq cq la gr cr lr gv cv l2.length gu c L X V (k' + 1) W) hg hgB => lq_taken_no h HVL.out.1 HVL.out.2.1 (by omega) hLc hcv (by omega) g hg hgB)
              have HTY:=Aside0.mk (fun (W:World) (g:Nat) (h:LqI w0 gq cq la gr cr lr gv cv l2.length gu c L X V (k' + 1) W) hg hgB => lq_taken_yes h HVL.out.1 HVL.out.2.1 (by omega) hLc hcv (by omega) g hg hgB)
              clear hz2 HI
              go_wp2
              go_loopg [13] (18446744073709551615 - Q + 1) (fun q v13 wy => ∃ g:Nat,v13 = .int .u64 (g:Int)∧Aside0 (Q≤g∧g + 1 = Q + q∧g < 18446744073709551616∧LqI w0 gq cq la gr cr lr gv cv l2.length gu c L X V (k' + 1) wy))
              case atStart => exact ⟨18446744073709551615,rfl,⟨hcut.out.1,by have:=hcut.out.1;omega,hcut.out.2.1,LqI.below hcut.out.2.2 (Below.drew (Below.refl _ _))⟩⟩
              case round =>
                clear hcut
                obtain ⟨g,rfl,hg⟩:=hrel
                obtain ⟨ki,hki⟩:∃ ki,gk = ki + 1:=⟨gk - 1,by have:=hg.out;omega⟩
                subst hki
                rcases Nat.lt_or_ge Q g with hgQ | hgQ
                · obtain ⟨g1,hg1⟩:∃ g1:Nat,g1 = g - 1:=⟨_,rfl⟩
                  have p8:IntKind.u64.wrap ((g:Int) - 1) = (g1:Int):=by have:=hg.out.2.2.1;rw [wU];omega
                  have HG1:=Aside0.mk (show g1 + 1 = g∧Q < g by omega)
                  clear hg1 hgQ
                  go_wp2_with (go_at_call 181;(with_reducible refine (HTN.out _ _ hg.out.2.2.2 (by rw [← HG.out.1];exact HG1.out.2) hg.out.2.2.1).mono ?_);rintro e w6 ⟨rfl,hb6⟩;have HB6:=Aside0.mk hb6;clear hb6)
                  go_roundg ki
                  case measure => omega
                  case rel => exact ⟨g1,rfl,⟨by have:=HG1.out;omega,by have:=HG1.out;have:=hg.out;omega,by have:=HG1.out;have:=hg.out;omega,LqI.below hg.out.2.2.2 HB6.out⟩⟩
                · have hgq:g = lqP X V k' / V:=by rw [← HG.out.1];have:=hg.out.1;omega
                  have HGQ:=Aside0.mk hgq
                  clear hgq hgQ
                  by_cases hka:k' < la
                  · have d5:decide ((k':Int) < (la:Int)) = true:=decide_eq_true (by omega)
                    have d6:decide (k' < la) = true:=decide_eq_true hka
                    go_wp2_with (go_at_call 181;(with_reducible refine (HTY.out _ _ hg.out.2.2.2 HGQ.out hg.out.2.2.1).mono ?_);rintro e w6 ⟨rfl,h61,h62⟩;obtain ⟨⟨y6,hy6⟩,hf6,hI6⟩:=LqI.laid HD.out.1 HD.out.2.1 HVL.out.1 HVL.out.2.1 (by omega) hka hg.out.2.2.2 h62 h61;rw [← HGQ.out] at hI6;have HI6:=Aside0.mk hI6;clear h61 h62 hI6)
                    go_roundg ko
                    case measure => omega
                    case rel => exact ⟨k',jm,by have:=HKQ.out;omega,by omega,rfl,HJM,HI6⟩
                  · have d5:decide ((k':Int) < (la:Int)) = false:=decide_eq_false (by omega)
                    have d6:decide (k' < la) = false:=decide_eq_false hka
                    go_wp2_with (go_at_call 181;(with_reducible refine (HTY.out _ _ hg.out.2.2.2 HGQ.out hg.out.2.2.1).mono ?_);rintro e w6 ⟨rfl,h61,h62⟩;have HI6:=Aside0.mk (LqI.taken HD.out.1 HVL.out.1 HVL.out.2.1 (by omega) HVL.out.2.2.1 (by omega) hg.out.2.2.2 h62 h61);clear h61 h62)
                    go_roundg ko
                    case measure => omega
                    case rel => exact ⟨k',jm,by have:=HKQ.out;omega,by omega,rfl,HJM,HI6⟩
end Go.Proofs.Ytonpekldcnankaa.X
