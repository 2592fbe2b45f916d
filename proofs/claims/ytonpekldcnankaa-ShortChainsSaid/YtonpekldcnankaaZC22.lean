/- Texts of the walk and of the plain laws, laid together by a program: Sp4, Dq, Dw, Sh, Rg, Rs, Rw, Bx, R8. -/
import Derived.Defers
import Derived.Laws.CopyOwn
import Derived.Recover
import Derived.Test.YtonpekldcnankaaZC15
section
namespace Go.Proofs.Ytonpekldcnankaa.X
open Go.RowKit Go.Proofs.YtonpekldcnankaaW.PrintWords Go.Proofs.YtonpekldcnankaaW.PrintLast Go.Proofs.YtonpekldcnankaaW.PrintMore Go.Proofs.Ytonpekldcnankaa.Ma
set_option linter.unusedVariables false
abbrev Wd (l:List Int):Prop:=dg ((18446744073709551616:Nat):Int) l
theorem wd_all {l:List Int}:l.all wd = true ↔ Wd l:=wds_dg
abbrev nW (l:List Int):Nat:=num 18446744073709551616 l
abbrev wds (n x:Nat):List Int:=dgs 18446744073709551616 n x
theorem wds_Wd (n x:Nat):Wd (wds n x):=dgs_dg (by decide) _ _
theorem Wd_eq {l:List Int} (h:Wd l):l = wds l.length (nW l):=(dgs_num h).symm
theorem nW_lt {l:List Int} (h:Wd l):nW l < 18446744073709551616 ^ l.length:=num_lt h
theorem nW_wds {n x:Nat} (h:x < 18446744073709551616 ^ n):nW (wds n x) = x:=by
  show num _ (dgs _ _ _) = x
  rw [num_dgs,Nat.mod_eq_of_lt h]
theorem vs_nW {l:List Int} (h:Wd l) {n:Nat} (hn:l.length≤n):vs 18446744073709551616 (at0 l) n = (nW l:Int):=by
  rw [vs_ge l n hn];exact val_num h
theorem nW_lt' {l:List Int} (h:Wd l) {n:Nat} (hn:l.length≤n):nW l < 18446744073709551616 ^ n:=Nat.lt_of_lt_of_le (nW_lt h) (Nat.pow_le_pow_right (by decide) hn)
theorem cast_pow (n:Nat):((18446744073709551616 ^ n:Nat):Int) = 18446744073709551616 ^ n:=by simp
theorem mk_wds {f:Nat→Int} {n x:Nat} (hf:∀ i,i < n→0≤f i∧f i < 18446744073709551616) (hx:vs 18446744073709551616 f n = (x:Int)):mk f n = wds n x:=by
  have hd:Wd (mk f n):=dg_mk hf
  have e:nW (mk f n) = x:=by
    have h1:=val_num hd
    have h2:val ((18446744073709551616:Nat):Int) (mk f n) = vs 18446744073709551616 f n:=val_mk f n
    rw [h2,hx] at h1
    exact_mod_cast h1.symm
  have h3:=Wd_eq hd
  rw [mk_length,e] at h3
  exact h3
theorem bit_cases (c:Int):c % 2 = 0∨c % 2 = 1:=by omega
theorem sp_limbs_AddIf {c:Int} {a b:List Int} (hc:wd c = true) (ha:Wd a) (hb:Wd b) (hn:max a.length b.length≤35184372088832) :
    limbs_AddIf.f c a b = some (wds (max a.length b.length) (nW a + (if c % 2 = 1 then nW b else 0)),(((nW a + (if c % 2 = 1 then nW b else 0)) / 18446744073709551616 ^ (max a.length b.length):Nat):Int)):=by
  unfold limbs_AddIf.f
  rw [if_pos ⟨⟨hc,hn⟩,wd_all.2 ha,wd_all.2 hb⟩]
  have hs:=sumA (m:=c % 2) (a:=a) (b:=b) (max a.length b.length)
  rw [vs_nW ha (Nat.le_max_left _ _),vs_nW hb (Nat.le_max_right _ _)] at hs
  have hcy:=cyA_bit (m:=c % 2) (bit_cases c) ha hb (max a.length b.length)
  have hdg:∀ i,i < max a.length b.length→0≤dgA (c % 2) a b i∧dgA (c % 2) a b i < 18446744073709551616:=fun i _ => by unfold dgA;omega
  generalize max a.length b.length = n at *
  have hm:(c % 2) * (nW b:Int) = ((if c % 2 = 1 then nW b else 0:Nat):Int):=by
    rcases bit_cases c with h | h <;> rw [h] <;> simp
  rw [hm] at hs
  generalize (if c % 2 = 1 then nW b else 0) = y at *
  have h0:=vs_nonneg (B:=18446744073709551616) (by decide) n (fun i hi => (hdg i hi).1)
  have h1:=vs_lt (B:=18446744073709551616) (by decide) n hdg
  obtain ⟨v,hv⟩:=Int.eq_ofNat_of_zero_le h0
  obtain ⟨q,hq⟩:=Int.eq_ofNat_of_zero_le hcy.1
  rw [mk_wds (x:=v) hdg hv,hq]
  rw [hv] at hs h1
  rw [hq,← cast_pow] at hs
  rw [← cast_pow] at h1
  have hs':v + 18446744073709551616 ^ n * q = nW a + y:=by rw [Nat.mul_comm];exact_mod_cast hs
  have h1':v < 18446744073709551616 ^ n:=by exact_mod_cast h1
  rw [← hs',Nat.add_mul_div_left _ _ (Nat.pow_pos (by decide)),Nat.div_eq_of_lt h1',Nat.zero_add]
  congr 2
  show dgs _ _ _ = dgs _ _ _
  rw [← dgs_mod n (v + 18446744073709551616 ^ n * q),Nat.add_mul_mod_self_left,dgs_mod]
theorem sp_limbs_SubIf {c:Int} {a b:List Int} (hc:wd c = true) (ha:Wd a) (hb:Wd b) (hn:max a.length b.length≤35184372088832) :
    limbs_SubIf.f c a b = some (if nW a < (if c % 2 = 1 then nW b else 0) then (wds (max a.length b.length) (nW a + 18446744073709551616 ^ (max a.length b.length) - (if c % 2 = 1 then nW b else 0)),1) else (wds (max a.length b.length) (nW a - (if c % 2 = 1 then nW b else 0)),0)):=by
  unfold limbs_SubIf.f
  rw [if_pos ⟨⟨hc,hn⟩,wd_all.2 ha,wd_all.2 hb⟩]
  have hs:=subS (m:=c % 2) (bit_cases c) (a:=a) (b:=b) ha hb (max a.length b.length)
  rw [vs_nW ha (Nat.le_max_left _ _),vs_nW hb (Nat.le_max_right _ _)] at hs
  have hcy:=cyS_bit (m:=c % 2) (a:=a) (b:=b) (max a.length b.length)
  have hdg:∀ i,i < max a.length b.length→0≤dgS (c % 2) a b i∧dgS (c % 2) a b i < 18446744073709551616:=fun i _ => by unfold dgS;omega
  have la:=nW_lt' ha (Nat.le_max_left a.length b.length)
  have lb:=nW_lt' hb (Nat.le_max_right a.length b.length)
  generalize max a.length b.length = n at *
  have hm:(c % 2) * (nW b:Int) = ((if c % 2 = 1 then nW b else 0:Nat):Int):=by
    rcases bit_cases c with h | h <;> rw [h] <;> simp
  have ly:(if c % 2 = 1 then nW b else 0) < 18446744073709551616 ^ n:=by split <;> omega
  rw [hm] at hs
  generalize (if c % 2 = 1 then nW b else 0) = y at *
  have h0:=vs_nonneg (B:=18446744073709551616) (by decide) n (fun i hi => (hdg i hi).1)
  have h1:=vs_lt (B:=18446744073709551616) (by decide) n hdg
  rw [← cast_pow] at hs h1
  generalize 18446744073709551616 ^ n = P at *
  split
  · rename_i hlt
    have e:cyS (c % 2) a b n = 1:=by
      have:cyS (c % 2) a b n = 0∨cyS (c % 2) a b n = 1:=by omega
      rcases this with h | h
      · rw [h] at hs;omega
      · exact h
    rw [e] at hs ⊢
    rw [mk_wds (x:=nW a + P - y) hdg (by rw [hs];omega)]
  · rename_i hge
    have e:cyS (c % 2) a b n = 0:=by
      have:cyS (c % 2) a b n = 0∨cyS (c % 2) a b n = 1:=by omega
      rcases this with h | h
      · exact h
      · rw [h] at hs;omega
    rw [e] at hs ⊢
    rw [mk_wds (x:=nW a - y) hdg (by rw [hs];omega)]
theorem wd_one:wd 1 = true:=by decide
theorem sp_limbs_Sub {a b:List Int} (ha:Wd a) (hb:Wd b) (hn:max a.length b.length≤35184372088832) :
    limbs_Sub.f a b = some (if nW a < nW b then (wds (max a.length b.length) (nW a + 18446744073709551616 ^ (max a.length b.length) - nW b),1) else (wds (max a.length b.length) (nW a - nW b),0)):=by
  unfold limbs_Sub.f;rw [sp_limbs_SubIf wd_one ha hb hn];rfl
theorem sp_limbs_Less {a b:List Int} (ha:Wd a) (hb:Wd b) (hn:max a.length b.length≤35184372088832) :
    limbs_Less.f a b = some (if nW a < nW b then 1 else 0):=by
  unfold limbs_Less.f;rw [sp_limbs_Sub ha hb hn]
  simp only [Option.bind_some]
  congr 1;split <;> rfl
theorem sp_limbs_Select {c:Int} {a b:List Int} (hc:wd c = true) (ha:Wd a) (hb:Wd b) (hn:max a.length b.length≤35184372088832) :
    limbs_Select.f c a b = some (wds (max a.length b.length) (if c % 2 = 1 then nW a else nW b)):=by
  unfold limbs_Select.f
  rw [if_pos ⟨⟨hc,hn⟩,wd_all.2 ha,wd_all.2 hb⟩]
  congr 1
  split
  · exact mk_wds (fun i _ => at0_dg (by decide) ha i) (vs_nW ha (Nat.le_max_left _ _))
  · exact mk_wds (fun i _ => at0_dg (by decide) hb i) (vs_nW hb (Nat.le_max_right _ _))
theorem blen_nW {l:List Int} (h:Wd l):blen (nW l)≤2 * l.length:=blen_le (by rw [← W_pow];exact nW_lt h)
theorem sp_OfW {l:List Int} (hl:Wd l) (hn:l.length≤1000000000):Ev (fun k => sconceref03_Of.f k l) (big (nW l)):=sp_Of hl hn
theorem blen_Wpow (n:Nat):blen (18446744073709551616 ^ n)≤2 * n + 1:=blen_le (by rw [W_pow];exact Nat.pow_lt_pow_right (by decide) (by omega))
section
variable {a b:List Int}
end
def fewB (n:Nat) (ls:List (List Int)):Bool:=ls.all fun l => decide (l.length≤n)
theorem rdLI (ls:List (List Int)) (i:Nat):rd_L2 ls (i:Int) = ls.getD i []:=by simp [rd_L2]
theorem few_step {n:Nat} {ls:List (List Int)} {i:Nat} (hi:i < ls.length):fewB n (ls.drop i) = (decide ((ls.getD i []).length≤n) && fewB n (ls.drop (i + 1))):=by
  unfold fewB
  rw [List.drop_eq_getElem_cons hi,List.all_cons]
  simp [hi]
theorem wf_Wd {l:List Int}:(∀ x ∈ l,(Lit.int .u64 x).wf = true) ↔ Wd l:=by
  constructor
  · intro h x hx;exact wf_u64.1 (h x hx)
  · intro h x hx;exact wf_u64.2 (h x hx)
end Go.Proofs.Ytonpekldcnankaa.X
end
section
namespace Go.Proofs.Ytonpekldcnankaa.X
open Go.RowKit Go.Proofs.YtonpekldcnankaaW.PrintWords Go.Proofs.YtonpekldcnankaaW.PrintLast Go.Proofs.YtonpekldcnankaaW.PrintMore Go.Proofs.Ytonpekldcnankaa.Ma
set_option linter.unusedVariables false
theorem dq_set {n Q k:Nat} (hk:k < 64 * n) (hQ:Q % 2 ^ (k + 1) = 0) (hQl:Q < 18446744073709551616 ^ n) {f:Nat} (hf:f < 2) :
    (wds n Q).set (k / 64) (Go.bits .or .u64 (at0 (wds n Q) (k / 64)) (IntKind.u64.wrap ((f:Int) * 2 ^ (k % 64)))) = wds n (Q + f * 2 ^ k):=by
  have hk2:k / 64 < n:=by omega
  have hlen:(wds n Q).length = n:=dgs_length _ _ _
  have hat:at0 (wds n Q) (k / 64) = ((Q / 18446744073709551616 ^ (k / 64) % 18446744073709551616:Nat):Int):=at0_dgs Q hk2
  have eW:18446744073709551616 ^ (k / 64) = 2 ^ (64 * (k / 64)):=by rw [Nat.pow_mul]
  have hkk:64 * (k / 64) + k % 64 = k:=Nat.div_add_mod k 64
  have hj:k % 64 < 64:=Nat.mod_lt _ (by decide)
  have hz:Q / 2 ^ (64 * (k / 64)) % 18446744073709551616 % 2 ^ (k % 64 + 1) = 0:=by
    rw [show 18446744073709551616 = 2 ^ (k % 64 + 1) * 2 ^ (63 - k % 64) by rw [← Nat.pow_add,show k % 64 + 1 + (63 - k % 64) = 64 by omega],Nat.mod_mul_right_mod]
    have h5:=Nat.mod_mul_right_div_self Q (2 ^ (64 * (k / 64))) (2 ^ (k % 64 + 1))
    rw [← Nat.pow_add,show 64 * (k / 64) + (k % 64 + 1) = k + 1 by omega,hQ,Nat.zero_div] at h5
    exact h5.symm
  generalize hw0:Q / 2 ^ (64 * (k / 64)) % 18446744073709551616 = w0 at *
  have hw0l:w0 < 18446744073709551616:=by rw [← hw0];exact Nat.mod_lt _ (by decide)
  have hp:2 ^ (k % 64)≤2 ^ 63:=Nat.pow_le_pow_right (by decide) (by omega)
  have hfl:f * 2 ^ (k % 64) < 18446744073709551616:=by
    have:f * 2 ^ (k % 64)≤1 * 2 ^ (k % 64):=Nat.mul_le_mul_right _ (by omega)
    omega
  have hfw:IntKind.u64.wrap ((f:Int) * 2 ^ (k % 64)) = ((f * 2 ^ (k % 64):Nat):Int):=by
    rw [wU]
    have e:((f:Int) * 2 ^ (k % 64)) = ((f * 2 ^ (k % 64):Nat):Int):=by simp
    rw [e];omega
  have hflt:f * 2 ^ (k % 64) < 2 ^ (k % 64 + 1):=by
    rw [Nat.pow_succ,Nat.mul_comm (2 ^ (k % 64))]
    exact Nat.mul_lt_mul_of_pos_right hf (Nat.pow_pos (by decide))
  have hor:Go.bits .or .u64 (w0:Int) ((f * 2 ^ (k % 64):Nat):Int) = ((w0 + f * 2 ^ (k % 64):Nat):Int):=by
    rw [b_or_add (k % 64 + 1) (by omega) (by omega) (by omega) (by omega) (by exact_mod_cast hz) (by exact_mod_cast hflt)];omega
  have hsum:w0 + f * 2 ^ (k % 64) < 18446744073709551616:=by
    have h6:2 ^ (k % 64 + 1) ∣ w0:=Nat.dvd_of_mod_eq_zero hz
    have h7:(18446744073709551616:Nat) = 2 ^ (k % 64 + 1) * 2 ^ (63 - k % 64):=by rw [← Nat.pow_add,show k % 64 + 1 + (63 - k % 64) = 64 by omega]
    obtain ⟨c,hc⟩:=h6
    rw [hc,h7] at hw0l ⊢
    have h8:c < 2 ^ (63 - k % 64):=Nat.lt_of_mul_lt_mul_left hw0l
    calc 2 ^ (k % 64 + 1) * c + f * 2 ^ (k % 64) < 2 ^ (k % 64 + 1) * c + 2 ^ (k % 64 + 1):=by omega
      _ = 2 ^ (k % 64 + 1) * (c + 1):=by rw [Nat.mul_add,Nat.mul_one]
      _≤2 ^ (k % 64 + 1) * 2 ^ (63 - k % 64):=Nat.mul_le_mul_left _ h8
  rw [hat,eW,hw0,hfw,hor]
  have hdg:dg ((18446744073709551616:Nat):Int) ((wds n Q).set (k / 64) ((w0 + f * 2 ^ (k % 64):Nat):Int)):=dg_set (wds_Wd n Q) ⟨by omega,by omega⟩ _
  refine dgs_eq hdg (by rw [List.length_set,hlen]) ?_
  congr 1
  have h9:=num_set (B:=18446744073709551616) (l:=wds n Q) (i:=k / 64) ((w0 + f * 2 ^ (k % 64):Nat):Int) (by rw [hlen];exact hk2)
  rw [hat,eW,hw0,Int.toNat_natCast,Int.toNat_natCast,num_dgs,Nat.mod_eq_of_lt hQl,Nat.add_mul,Nat.mul_assoc f,← Nat.pow_add,Nat.add_comm (k % 64),hkk] at h9
  omega
theorem dq_round {T:Nat} {l2:List Int} (h2:Wd l2) (hn:l2.length≤300) (hT:T < 2 * nW l2):∃ (less:List Int) (low:Int) (f:Nat),limbs_Sub.f (wds l2.length T) l2 = some (less,low)∧f < 2∧f = (if nW l2≤T then 1 else 0) ∧
    Go.bits .or .u64 ((T / 18446744073709551616 ^ l2.length:Nat):Int) (Go.bits .xor .u64 1 low) = (f:Int)∧limbs_Select.f (f:Int) less (wds l2.length T) = some (wds l2.length (T % nW l2))∧Go.bits .and .u64 (f:Int) 1 = (f:Int):=by
  have hM:=nW_lt h2
  have hlT:(wds l2.length T).length = l2.length:=dgs_length _ _ _
  have hWT:Wd (wds l2.length T):=wds_Wd _ _
  have hnT:nW (wds l2.length T) = T % 18446744073709551616 ^ l2.length:=num_dgs _ _
  have hs:=sp_limbs_Sub hWT h2 (by rw [hlT,Nat.max_self];omega)
  have hmx:max (wds l2.length T).length l2.length = l2.length:=by rw [hlT,Nat.max_self]
  rw [hmx,hnT] at hs
  generalize hP:18446744073709551616 ^ l2.length = P at *
  generalize hMm:nW l2 = M at *
  have hP0:0 < P:=by omega
  have sel:∀ (f:Nat) (x:Nat),f < 2→limbs_Select.f (f:Int) (wds l2.length x) (wds l2.length T) = some (if f = 1 then wds l2.length x else wds l2.length T):=by
    intro f x hf
    rw [sp_limbs_Select (by rw [wd_iff];omega) (wds_Wd _ _) (wds_Wd _ _) (by rw [dgs_length,dgs_length,Nat.max_self];omega)]
    rw [dgs_length,dgs_length,Nat.max_self]
    congr 1
    have e1:∀ y:Nat,wds l2.length (nW (wds l2.length y)) = wds l2.length y:=fun y => by
      show dgs _ _ _ = dgs _ _ _
      rw [show nW (wds l2.length y) = y % 18446744073709551616 ^ l2.length from num_dgs _ _,dgs_mod]
    rcases (show f = 0∨f = 1 by omega) with rfl | rfl
    · rw [if_neg (by omega),if_neg (by omega),e1]
    · rw [if_pos (by omega),if_pos rfl,e1]
  rcases Nat.lt_or_ge T M with hlt | hge
  · have ht:T % P = T:=Nat.mod_eq_of_lt (by omega)
    rw [ht,if_pos hlt] at hs
    refine ⟨_,_,0,hs,by omega,by rw [if_neg (by omega)],?_,?_,by decide⟩
    · rw [Nat.div_eq_of_lt (show T < P by omega)];decide
    · rw [sel 0 _ (by omega),if_neg (by omega),Nat.mod_eq_of_lt hlt]
  · have hTM:T % M = T - M:=by rw [Nat.mod_eq_sub_mod hge,Nat.mod_eq_of_lt (by omega)]
    rcases Nat.lt_or_ge T P with hp | hp
    · have ht:T % P = T:=Nat.mod_eq_of_lt hp
      rw [ht,if_neg (by omega)] at hs
      refine ⟨_,_,1,hs,by omega,by rw [if_pos hge],?_,?_,by decide⟩
      · rw [Nat.div_eq_of_lt hp];decide
      · rw [sel 1 _ (by omega),if_pos rfl,hTM]
    · have ht:T % P = T - P:=by rw [Nat.mod_eq_sub_mod hp,Nat.mod_eq_of_lt (by omega)]
      rw [ht,if_pos (by omega)] at hs
      rw [show T - P + P - M = T - M by omega] at hs
      refine ⟨_,_,1,hs,by omega,by rw [if_pos hge],?_,?_,by decide⟩
      · rw [Nat.div_eq_of_lt_le (k:=1) (by omega) (by omega)];decide
      · rw [sel 1 _ (by omega),if_pos rfl,hTM]
end Go.Proofs.Ytonpekldcnankaa.X
end
section
namespace Go.Proofs.Ytonpekldcnankaa.X
open Go.RowKit Go.Proofs.YtonpekldcnankaaW.PrintWords Go.Proofs.YtonpekldcnankaaW.PrintLast Go.Proofs.YtonpekldcnankaaW.PrintMore Go.Proofs.Ytonpekldcnankaa.Ma
set_option linter.unusedVariables false
set_option linter.unusedSimpArgs false
theorem box_stay {w W:World} {b:Nat} {v:Value} {t:TypeId} (h:w.heap[b]? = some (.cells #[v] t (0,0))) (hb:Below w.heap.size w W):W.cell? ⟨b,0,none⟩ = some v:=cell_of_one (blk_below h hb)
def DvI (w:World) (A M n m k:Nat) (vq vr:Value) (wr:World):Prop :=
  Kd.R (Kd.int .u64) 24 wr w.heap.size (fun k_ => w.heap.size≤k_) vq (wds n (A / 2 ^ k / M * 2 ^ k)) ∧
  Kd.R (Kd.int .u64) 24 wr w.heap.size (fun k_ => w.heap.size≤k_∧some k_≠vq.ownBlock) vr (wds m (A / 2 ^ k % M))∧Below w.heap.size w wr
theorem DvI.step {w wr w7:World} {A M n m kk gq cq f base7:Nat} {vr v7:Value} (hI:DvI w A M n m (kk + 1) (.slice (some ⟨gq,0,none⟩) n cq) vr wr) (hB7:Below wr.heap.size wr w7) (hb7:wr.heap.size≤base7)
    (hR7:Kd.R (Kd.int .u64) 24 w7 base7 (fun _ => True) v7 (wds m (A / 2 ^ kk % M))) (hkk:kk < 64 * n) (hA:A < 18446744073709551616 ^ n) (hf:f < 2) (hq:A / 2 ^ kk / M = 2 * (A / 2 ^ (kk + 1) / M) + f) :
    ∃ y0:Int,w7.cell? ⟨gq,kk / 64,none⟩ = some (.int .u64 y0)∧w7.frozen? ⟨gq,kk / 64,none⟩ = false ∧
      DvI w A M n m kk (.slice (some ⟨gq,0,none⟩) n cq) v7 ((w7.setCell ⟨gq,kk / 64,none⟩ (.int .u64 (Go.bits .or .u64 y0 (IntKind.u64.wrap ((f:Int) * 2 ^ (kk % 64)))))).drew):=by
  obtain ⟨h1,h2,h3⟩:=hI
  have hk:kk / 64 < n:=by omega
  have hlt:gq < wr.heap.size:=Kd.R_lt h1 gq rfl
  have hwq:w.heap.size≤gq:=h1.1 gq rfl
  have h17:=Kd.R_below h1 hB7
  obtain ⟨hx,hfz⟩:=Kd.R_celln 0 h17 ((kk / 64:Nat):Int) (by omega) (by omega)
  rw [Int.toNat_natCast] at hx hfz
  obtain ⟨hP,hQ⟩:=Kd.R_putg h17 ((kk / 64:Nat):Int) (Go.bits .or .u64 (at0 (wds n (A / 2 ^ (kk + 1) / M * 2 ^ (kk + 1))) (kk / 64)) (IntKind.u64.wrap ((f:Int) * 2 ^ (kk % 64))))
  rw [Int.toNat_natCast] at hP hQ
  have hQl:A / 2 ^ (kk + 1) / M * 2 ^ (kk + 1) < 18446744073709551616 ^ n:=by
    refine Nat.lt_of_le_of_lt (Nat.le_trans (Nat.mul_le_mul_right _ (Nat.div_le_self _ _)) (Nat.div_mul_le_self _ _)) hA
  rw [dq_set hkk (Nat.mul_mod_left _ _) hQl hf,show A / 2 ^ (kk + 1) / M * 2 ^ (kk + 1) + f * 2 ^ kk = A / 2 ^ kk / M * 2 ^ kk by rw [hq,Nat.add_mul,Nat.pow_succ];congr 1;rw [Nat.mul_comm (2 ^ kk) 2,← Nat.mul_assoc,Nat.mul_comm _ 2]] at hP
  refine ⟨at0 (wds n (A / 2 ^ (kk + 1) / M * 2 ^ (kk + 1))) (kk / 64),?_,hfz,?_⟩
  · rw [hx]
    show some (Value.int .u64 (rdOf 0 _ _)) = _
    unfold rdOf at0
    rw [Int.toNat_natCast]
  · have h7b:=Kd.R_bound hR7
    refine ⟨Kd.R_below hP (Below.drew (Below.refl _ _)),Kd.R_below (Kd.R_grown (Kd.R_mono (Kd.R_lower h7b (by omega)) (ok':=fun k_ => w.heap.size≤k_∧some k_≠(Value.slice (some ⟨gq,0,none⟩) n cq).ownBlock) (fun k hk2 => ⟨?_,?_⟩)) hQ (fun k hk2 e => ?_)) (Below.drew (Below.refl _ _)),?_⟩
    · have:=hk2.2.1
      omega
    · have:=hk2.2.1
      simp [Value.ownBlock]
      omega
    · exact hk2.2 e
    · exact Below.drew (pw_below_grown (below_then h3 h3.size hB7) (some gq) (below_then h3 h3.size hB7).size hQ (fun k hk2 => by cases hk2;exact hwq))
end Go.Proofs.Ytonpekldcnankaa.X
end
section
namespace Go.Proofs.Ytonpekldcnankaa.X
open Go.RowKit Go.Proofs.YtonpekldcnankaaW.PrintWords Go.Proofs.YtonpekldcnankaaW.PrintLast Go.Proofs.YtonpekldcnankaaW.PrintMore Go.Proofs.Ytonpekldcnankaa.Ma
set_option linter.unusedVariables false
set_option linter.unusedSimpArgs false
theorem run_shr64w (x:Int) (hx:0≤x∧x < 18446744073709551616) (s:Nat) (hs:s≤64):∀ W:World,(Op.shift BinOp.shr .u64 x .i64 (s:Int)).run Try.prog W = .ok (.int .u64 (x / 2 ^ s)) W:=by
  intro W
  unfold Op.shift
  simp [go_sem]
  rw [if_neg (by omega),Nat.min_eq_left (by omega),Int.fdiv_eq_ediv_of_nonneg _ (Int.le_of_lt (Int.pow_pos (by decide)))]
theorem sh_step {n A i s:Nat} (hi:i + 1 < n) (hs:s < 64):((wds n (A % 18446744073709551616 ^ i * 2 ^ s)).set i (Go.bits .or .u64 (at0 (wds n (A % 18446744073709551616 ^ i * 2 ^ s)) i) (IntKind.u64.wrap (((A / 18446744073709551616 ^ i % 18446744073709551616:Nat):Int) * 2 ^ s)))).set (i + 1) (((A / 18446744073709551616 ^ i % 18446744073709551616:Nat):Int) / 2 ^ (64 - s)) = wds n (A % 18446744073709551616 ^ (i + 1) * 2 ^ s):=by
  have hBi:0 < 18446744073709551616 ^ i:=Nat.pow_pos (by decide)
  have hS:0 < 2 ^ s:=Nat.pow_pos (by decide)
  have hS2:2 ^ s≤2 ^ 63:=Nat.pow_le_pow_right (by decide) (by omega)
  have em:A % 18446744073709551616 ^ (i + 1) = A % 18446744073709551616 ^ i + 18446744073709551616 ^ i * (A / 18446744073709551616 ^ i % 18446744073709551616):=by rw [Nat.pow_succ,Nat.mod_mul]
  have hx:A / 18446744073709551616 ^ i % 18446744073709551616 < 18446744073709551616:=Nat.mod_lt _ (by decide)
  have hr:A % 18446744073709551616 ^ i < 18446744073709551616 ^ i:=Nat.mod_lt _ hBi
  rw [em]
  generalize A / 18446744073709551616 ^ i % 18446744073709551616 = x at *
  generalize A % 18446744073709551616 ^ i = r at *
  have hN:r * 2 ^ s < 18446744073709551616 ^ i * 2 ^ s:=Nat.mul_lt_mul_of_pos_right hr hS
  obtain ⟨N,hNe⟩:∃ N,N = r * 2 ^ s:=⟨_,rfl⟩
  rw [← hNe] at hN ⊢
  have hn2:18446744073709551616 ^ i * 18446744073709551616≤18446744073709551616 ^ n:=by rw [← Nat.pow_succ];exact Nat.pow_le_pow_right (by decide) (by omega)
  have hNi:N < 18446744073709551616 ^ i * 18446744073709551616:=Nat.lt_of_lt_of_le hN (Nat.mul_le_mul_left _ (by omega))
  have hNn:N < 18446744073709551616 ^ n:=Nat.lt_of_lt_of_le hNi hn2
  have hd:N / 18446744073709551616 ^ i < 2 ^ s:=by rw [Nat.div_lt_iff_lt_mul hBi,Nat.mul_comm];exact hN
  have hat:at0 (wds n N) i = ((N / 18446744073709551616 ^ i:Nat):Int):=by
    have:=at0_dgs (B:=18446744073709551616) N (show i < n by omega)
    rw [Nat.mod_eq_of_lt (by omega)] at this
    exact this
  have hat1:at0 (wds n N) (i + 1) = 0:=by
    have:=at0_dgs (B:=18446744073709551616) N hi
    rw [show N / 18446744073709551616 ^ (i + 1) = 0 from Nat.div_eq_of_lt (by rw [Nat.pow_succ];exact hNi)] at this
    exact this
  obtain ⟨low,hlow⟩:∃ q,q = x * 2 ^ s % 18446744073709551616:=⟨_,rfl⟩
  obtain ⟨up,hup⟩:∃ q,q = x * 2 ^ s / 18446744073709551616:=⟨_,rfl⟩
  have hlu:18446744073709551616 * up + low = x * 2 ^ s:=by rw [hlow,hup];exact Nat.div_add_mod _ _
  have hw:IntKind.u64.wrap ((x:Int) * 2 ^ s) = (low:Int):=by
    rw [wU,hlow]
    have e:((x:Int) * 2 ^ s) = ((x * 2 ^ s:Nat):Int):=by simp
    rw [e];omega
  have hpp:2 ^ (64 - s) * 2 ^ s = 18446744073709551616:=by rw [← Nat.pow_add,show 64 - s + s = 64 by omega]
  have hu:(x:Int) / 2 ^ (64 - s) = (up:Int):=by
    have e:(2:Int) ^ (64 - s) = ((2 ^ (64 - s):Nat):Int):=by simp
    rw [e,hup,← Int.natCast_ediv,← hpp,Nat.mul_div_mul_right _ _ hS]
  have hll:low < 18446744073709551616:=by rw [hlow];exact Nat.mod_lt _ (by decide)
  have hlm:low % 2 ^ s = 0:=by
    rw [hlow,← hpp,Nat.mul_mod_mul_right,Nat.mul_mod_left]
  have hul:up < 18446744073709551616:=by
    have h1:x * 2 ^ s < 18446744073709551616 * 18446744073709551616:=Nat.mul_lt_mul'' hx (by omega)
    rw [hup]
    exact Nat.div_lt_of_lt_mul h1
  have hsum:low + N / 18446744073709551616 ^ i < 18446744073709551616:=by
    obtain ⟨c,hc⟩:=Nat.dvd_of_mod_eq_zero hlm
    rw [hc] at hll ⊢
    have h8:c < 2 ^ (64 - s):=by
      rw [← hpp,Nat.mul_comm] at hll
      exact Nat.lt_of_mul_lt_mul_right hll
    calc 2 ^ s * c + N / 18446744073709551616 ^ i < 2 ^ s * c + 2 ^ s:=by omega
      _ = 2 ^ s * (c + 1):=by rw [Nat.mul_add,Nat.mul_one]
      _≤2 ^ s * 2 ^ (64 - s):=Nat.mul_le_mul_left _ h8
      _ = 18446744073709551616:=by rw [Nat.mul_comm];exact hpp
  obtain ⟨d,hdd⟩:∃ d,d = N / 18446744073709551616 ^ i:=⟨_,rfl⟩
  rw [← hdd] at hd hat hsum
  have hor:Go.bits .or .u64 (d:Int) (low:Int) = ((low + d:Nat):Int):=by
    rw [u64_or _ _ (by omega) (by omega) (by omega) (by omega),Int.toNat_natCast,Int.toNat_natCast,Nat.or_comm,nat_join s]
    · exact hlm
    · exact hd
  rw [hat,hw,hu,hor]
  have hlen:(wds n N).length = n:=dgs_length _ _ _
  have hdg:dg ((18446744073709551616:Nat):Int) (((wds n N).set i ((low + d:Nat):Int)).set (i + 1) (up:Int)):=dg_set (dg_set (wds_Wd n N) ⟨by omega,by omega⟩ _) ⟨by omega,by omega⟩ _
  refine dgs_eq hdg (by rw [List.length_set,List.length_set,hlen]) ?_
  congr 1
  have h9:=num_set (B:=18446744073709551616) (l:=wds n N) (i:=i) ((low + d:Nat):Int) (by rw [hlen];omega)
  have h10:=num_set (B:=18446744073709551616) (l:=(wds n N).set i ((low + d:Nat):Int)) (i:=i + 1) (up:Int) (by rw [List.length_set,hlen];omega)
  rw [at0_set (by rw [hlen];omega),if_neg (by omega),hat1] at h10
  rw [hat,Int.toNat_natCast,Int.toNat_natCast,num_dgs,Nat.mod_eq_of_lt hNn,Nat.add_mul] at h9
  rw [Int.toNat_natCast] at h10
  have e1:up * 18446744073709551616 ^ (i + 1) = (18446744073709551616 * up) * 18446744073709551616 ^ i:=by rw [Nat.pow_succ];ac_rfl
  have e2:(18446744073709551616 * up) * 18446744073709551616 ^ i + low * 18446744073709551616 ^ i = x * 2 ^ s * 18446744073709551616 ^ i:=by rw [← Nat.add_mul,hlu]
  have e3:(r + 18446744073709551616 ^ i * x) * 2 ^ s = N + x * 2 ^ s * 18446744073709551616 ^ i:=by rw [Nat.add_mul,hNe];congr 1;ac_rfl
  rw [e3]
  rw [e1] at h10
  simp only [Int.toNat_zero,Nat.zero_mul,Nat.add_zero] at h10
  omega
theorem sh_two {w wr:World} {n g c i:Nat} {xs:List Int} (hR:Kd.R (Kd.int .u64) 24 wr w.heap.size (fun k_ => w.heap.size≤k_) (.slice (some ⟨g,0,none⟩) n c) xs) (hi:i + 1 < n) (hB:Below w.heap.size w wr) :
    wr.cell? ⟨g,i,none⟩ = some (.int .u64 (at0 xs i))∧wr.frozen? ⟨g,i,none⟩ = false∧∀ v1:Int,(∃ y1:Int,((wr.setCell ⟨g,i,none⟩ (.int .u64 v1)).drew).cell? ⟨g,i + 1,none⟩ = some (.int .u64 y1))∧((wr.setCell ⟨g,i,none⟩ (.int .u64 v1)).drew).frozen? ⟨g,i + 1,none⟩ = false ∧
      ∀ v2:Int,Kd.R (Kd.int .u64) 24 (((wr.setCell ⟨g,i,none⟩ (.int .u64 v1)).drew).setCell ⟨g,i + 1,none⟩ (.int .u64 v2)) w.heap.size (fun k_ => w.heap.size≤k_) (.slice (some ⟨g,0,none⟩) n c) ((xs.set i v1).set (i + 1) v2)∧Below w.heap.size w (((wr.setCell ⟨g,i,none⟩ (.int .u64 v1)).drew).setCell ⟨g,i + 1,none⟩ (.int .u64 v2)):=by
  have hg:w.heap.size≤g:=hR.1 g rfl
  obtain ⟨hx,hfz⟩:=Kd.R_celln 0 hR (i:Int) (by omega) (by omega)
  rw [Int.toNat_natCast] at hx hfz
  refine ⟨?_,hfz,fun v1 => ?_⟩
  · rw [hx]
    show some (Value.int .u64 (rdOf 0 _ _)) = _
    unfold rdOf at0
    rw [Int.toNat_natCast]
  · obtain ⟨hP,hQ⟩:=Kd.R_putg hR (i:Int) v1
    rw [Int.toNat_natCast] at hP hQ
    have hP2:=Kd.R_below hP (Below.drew (Below.refl _ _))
    have hB2:Below w.heap.size w (wr.setCell ⟨g,i,none⟩ (.int .u64 v1)).drew:=Below.drew (pw_below_grown hB (some g) hB.size hQ (fun k hk2 => by cases hk2;exact hg))
    obtain ⟨hx2,hf2⟩:=Kd.R_celln 0 hP2 ((i + 1:Nat):Int) (by omega) (by omega)
    rw [Int.toNat_natCast] at hx2 hf2
    refine ⟨⟨_,hx2⟩,hf2,fun v2 => ?_⟩
    obtain ⟨hP3,hQ3⟩:=Kd.R_putg hP2 ((i + 1:Nat):Int) v2
    rw [Int.toNat_natCast] at hP3 hQ3
    exact ⟨hP3,pw_below_grown hB2 (some g) hB2.size hQ3 (fun k hk2 => by cases hk2;exact hg)⟩
set_option maxHeartbeats 2000000 in
set_option maxRecDepth 100000 in
theorem shifted_ok (A1:Option Addr) (c1:Nat) (l1:List Int) (s:Nat) (w:World) (hr1:Kd.C (Kd.int .u64) w A1 l1.length l1) (hc1:l1.length≤c1) (h1:Wd l1) (hl1:l1.length≤300) (hs:s < 64) :
    Calls Try.prog 180 #[.slice A1 l1.length c1,.int .i64 (s:Int)] w fun e w' => ∃ A c,e = .returned (.slice A (l1.length + 1) c) ∧
      Kd.R (Kd.int .u64) 24 w' w.heap.size (fun _ => True) (.slice A (l1.length + 1) c) (wds (l1.length + 1) (nW l1 * 2 ^ s))∧Below w.heap.size w w':=by
  have H1:=Aside0.mk hr1
  have HW:=Aside0.mk h1
  clear hr1 h1
  obtain ⟨n,hn⟩:∃ n:Nat,n = l1.length + 1:=⟨_,rfl⟩
  have p1:IntKind.i64.wrap ((l1.length:Int) + 1) = (n:Int):=by rw [i64_w,w64 (by omega) (by omega)];omega
  rw [← hn]
  have HN:=Aside0.mk hn
  have hn3:n≤301:=by omega
  clear hn
  go_enter Try.func180,Try.ntmps180
  go_wp2_with (((with_reducible refine gate_dst (N:=11) rfl ?_);refine Kd.R_make (Kd.int .u64) _ 24 rfl (N:=11) rfl 23 _ _ rfl (n:Int) rfl rfl Try.underlying23 (.int .u64 0) 8 info_u64 rfl (by decide) (by omega) 0 (ok:=fun k_ => w.heap.size≤k_) (okp:=fun k_ => w.heap.size≤k_) rfl (fun _ hk => hk) (Nat.le_refl _) (by omega) (by simp only [Int.toNat_natCast];omega) (Below.refl _ _) (Nat.le_refl _) ?_;intro v2 w2 ho2 hb2 hg2 hnew2;clear hg2 hnew2;simp only [Int.toNat_natCast] at ho2;have HO:=Aside0.mk ho2;have HB:=Aside0.mk hb2;clear ho2 hb2;obtain ⟨Ao,co,eo⟩:=Kd.R_slice HO.out;rw [List.length_replicate] at eo;subst eo))
  go_loopg [14] (l1.length + 1) (fun q v14 wr => ∃ i:Nat,i + q = l1.length + 1∧i≤l1.length∧v14 = .int .i64 i∧Aside0 (Kd.R (Kd.int .u64) 24 wr w.heap.size (fun k_ => w.heap.size≤k_) (.slice Ao n co) (wds n (nW l1 % 18446744073709551616 ^ i * 2 ^ s)))∧Aside0 (Below w.heap.size w wr))
  case atStart => exact ⟨0,by omega,by omega,rfl,⟨by rw [Nat.pow_zero,Nat.mod_one,Nat.zero_mul,show wds n 0 = List.replicate n 0 from dgs_zero _];exact HO.out⟩,HB⟩
  case round =>
    clear HB HO
    obtain ⟨i,hiq,hin,rfl,HO,HB⟩:=hrel
    cases gk with
    | zero => omega
    | succ k1 =>
      by_cases hlt:i < l1.length
      · have d1:decide ((i:Int) < (l1.length:Int)) = true:=decide_eq_true (by omega)
        have d2:decide (i < l1.length) = true:=decide_eq_true hlt
        have HE:=Aside0.mk hiq
        clear hiq
        obtain ⟨x,hx⟩:∃ x:Nat,x = nW l1 / 18446744073709551616 ^ i % 18446744073709551616:=⟨_,rfl⟩
        have hxl:x < 18446744073709551616:=by rw [hx];exact Nat.mod_lt _ (by decide)
        have hax:at0 l1 i = (x:Int):=by rw [hx];exact at0_num (by decide) HW.out i
        obtain ⟨ad,hA,hxc⟩:=Kd.at_int (Kd.C_below H1.out HB.out) (i:Int) (by omega) (by omega)
        rw [rdA,Int.toNat_natCast] at hxc
        rw [hax] at hxc
        subst hA
        have hin2:i + 1 < n:=by have:=HN.out;omega
        obtain ⟨go,co2,eo,_,_,_⟩:=Kd.R_form HO.out (by rw [dgs_length];omega)
        rw [dgs_length] at eo
        cases eo
        obtain ⟨hy0,hyf,hT⟩:=sh_two HO.out hin2 HB.out
        obtain ⟨y0,hy⟩:∃ y,y = at0 (wds n (nW l1 % 18446744073709551616 ^ i * 2 ^ s)) i:=⟨_,rfl⟩
        have hst:=sh_step (A:=nW l1) hin2 hs
        rw [← hy,← hx] at hst
        rw [← hy] at hy0
        obtain ⟨⟨y1,hy1⟩,hyf1,hT2⟩:=hT (Go.bits .or .u64 y0 (IntKind.u64.wrap ((x:Int) * 2 ^ s)))
        have hT3:=hT2 ((x:Int) / 2 ^ (64 - s))
        rw [hst] at hT3
        clear hT hT2 hst hy
        obtain ⟨r,hr⟩:∃ r:Nat,r = 64 - s:=⟨_,rfl⟩
        rw [← hr] at hT3
        have pr:IntKind.i64.wrap (64 - (s:Int)) = (r:Int):=by rw [i64_w,w64 (by omega) (by omega)];omega
        have hr64:r≤64:=by omega
        have p9:IntKind.i64.wrap ((i:Int) + 1) = ((i + 1:Nat):Int):=by rw [i64_w,w64 (by omega) (by omega)];omega
        have hshl:=run_shl64 (x:Int) s hs
        have hshr:=run_shr64w (x:Int) (by omega) r hr64
        have HT3:=Aside0.mk hT3
        clear hT3 hr hx hax
        go_upto_region 5 with (fail)
        go_region
        go_wp2
        go_roundg k1
        case measure => omega
        case rel => exact ⟨i + 1,by have:=HE.out;omega,by omega,rfl,⟨HT3.out.1⟩,⟨HT3.out.2⟩⟩
      · have hin':i = l1.length:=by omega
        subst hin'
        have d1:decide ((l1.length:Int) < (l1.length:Int)) = false:=decide_eq_false (by omega)
        have d2:decide (l1.length < l1.length) = false:=decide_eq_false hlt
        have h:=HO.out
        rw [Nat.mod_eq_of_lt (nW_lt HW.out)] at h
        have HO2:=Aside0.mk (Kd.R_mono h (fun _ _ => trivial))
        clear h HO
        go_wp2
        go_ret
        exact ⟨_,_,rfl,HO2.out,HB.out⟩
end Go.Proofs.Ytonpekldcnankaa.X
end
section
namespace Go.Proofs.Ytonpekldcnankaa.X
open Go.RowKit Go.Proofs.YtonpekldcnankaaW.PrintWords Go.Proofs.Ytonpekldcnankaa.Ma
set_option linter.unusedVariables false
set_option linter.unusedSimpArgs false
def Rg.ok (m:List Int) (ls:List (List Int)):Bool:=(m.all wd && ls.all fun l => l.all wd) && decide (m.length≤300)
def Rg.mem (m:List Int) (ls:List (List Int)):Bool:=ls.all fun r => decide (r.length = m.length) && decide (num 18446744073709551616 r < num 18446744073709551616 m)
def Rg.out (chk:Option Bool) (m:List Int) (ls:List (List Int)) (v:List Int):Option (List Int × Int) :=
  if Rg.ok m ls = true then chk.bind fun t => if t = true∧Rg.mem m ls = true then some (v,0) else some ([],1) else none
theorem Rg.gate {x y:Option Bool} {m:List Int} {ls:List (List Int)} {v:List Int} (h:LeO x y):LeO (Rg.out x m ls v) (Rg.out y m ls v):=by
  intro r hr
  unfold Rg.out at hr ⊢
  split at hr
  · rename_i hc
    rw [if_pos hc]
    cases x with
    | none => exact absurd hr (by simp)
    | some v => rw [h v rfl];exact hr
  · exact absurd hr (by simp)
theorem Rg.ok_iff {m:List Int} {ls:List (List Int)}:Rg.ok m ls = true ↔ (Wd m∧∀ l ∈ ls,Wd l)∧m.length≤300:=by
  unfold Rg.ok
  simp only [Bool.and_eq_true,List.all_eq_true,decide_eq_true_eq]
  constructor
  · rintro ⟨⟨h1,h2⟩,h3⟩
    exact ⟨⟨wd_all.1 (List.all_eq_true.2 h1),fun l hl => wd_all.1 (List.all_eq_true.2 (h2 l hl))⟩,h3⟩
  · rintro ⟨⟨h1,h2⟩,h3⟩
    exact ⟨⟨List.all_eq_true.1 (wd_all.2 h1),fun l hl => List.all_eq_true.1 (wd_all.2 (h2 l hl))⟩,h3⟩
theorem Rg.mem_iff {m:List Int} {ls:List (List Int)}:Rg.mem m ls = true ↔ ∀ r ∈ ls,r.length = m.length∧nW r < nW m:=by
  unfold Rg.mem
  simp only [Bool.and_eq_true,List.all_eq_true,decide_eq_true_eq]
theorem Rg.at_mem {m:List Int} {ls:List (List Int)} (h:Rg.ok m ls = true) (hm:Rg.mem m ls = true):∀ i:Nat,i < ls.length→(rd_L2 ls (i:Int)).length = m.length∧limbs_Less.f (rd_L2 ls (i:Int)) m = some 1:=by
  intro i hi
  obtain ⟨⟨h1,h2⟩,h3⟩:=Rg.ok_iff.1 h
  have e:rd_L2 ls (i:Int) = ls[i]:=by rw [rdLI,List.getD_eq_getElem?_getD,List.getElem?_eq_getElem hi,Option.getD_some]
  obtain ⟨g1,g2⟩:=Rg.mem_iff.1 hm ls[i] (List.getElem_mem hi)
  rw [e]
  exact ⟨g1,by rw [sp_limbs_Less (h2 _ (List.getElem_mem hi)) h1 (by omega),if_pos g2]⟩
theorem Rg.at_any {m:List Int} {ls:List (List Int)} (h:Rg.ok m ls = true):∀ i:Nat,i < ls.length→(rd_L2 ls (i:Int)).length = m.length→∃ b:Int,(b = 0∨b = 1)∧limbs_Less.f (rd_L2 ls (i:Int)) m = some b:=by
  intro i hi hl
  obtain ⟨⟨h1,h2⟩,h3⟩:=Rg.ok_iff.1 h
  have e:rd_L2 ls (i:Int) = ls[i]:=by rw [rdLI,List.getD_eq_getElem?_getD,List.getElem?_eq_getElem hi,Option.getD_some]
  rw [e] at hl ⊢
  exact ⟨_,by split <;> simp,sp_limbs_Less (h2 _ (List.getElem_mem hi)) h1 (by omega)⟩
theorem Rg.at_no {m:List Int} {ls:List (List Int)} (h:Rg.ok m ls = true) (hm:¬ (Rg.mem m ls = true)):∃ i:Nat,i < ls.length∧¬ ((rd_L2 ls (i:Int)).length = m.length∧limbs_Less.f (rd_L2 ls (i:Int)) m = some 1):=by
  obtain ⟨⟨h1,h2⟩,h3⟩:=Rg.ok_iff.1 h
  rcases Classical.em (∃ i:Nat,i < ls.length∧¬ ((rd_L2 ls (i:Int)).length = m.length∧limbs_Less.f (rd_L2 ls (i:Int)) m = some 1)) with g | g
  · exact g
  · refine absurd (Rg.mem_iff.2 fun r hr => ?_) hm
    obtain ⟨i,hi,rfl⟩:=List.getElem_of_mem hr
    have e:rd_L2 ls (i:Int) = ls[i]:=by rw [rdLI,List.getD_eq_getElem?_getD,List.getElem?_eq_getElem hi,Option.getD_some]
    rcases Classical.em ((rd_L2 ls (i:Int)).length = m.length∧limbs_Less.f (rd_L2 ls (i:Int)) m = some 1) with q | q
    · rw [e] at q
      refine ⟨q.1,?_⟩
      have:=q.2
      rw [sp_limbs_Less (h2 _ (List.getElem_mem hi)) h1 (by omega)] at this
      by_cases c:nW ls[i] < nW m
      · exact c
      · rw [if_neg c] at this
        exact absurd this (by simp)
    · exact absurd ⟨i,hi,q⟩ g
theorem rg_C1 {W:World} {g:Nat} {t:TypeId} {A1:Option Addr} {c1:Nat} {l1:List Int} (h:W.heap[g]? = some (.cells #[.slice A1 l1.length c1] t (0,0))) (h1:Kd.C (Kd.int .u64) W A1 l1.length l1) (hc1:l1.length≤c1) :
    Kd.C (Kd.slice 24 (Kd.int .u64)) W (some ⟨g,0,none⟩) 1 [l1]:=by
  refine ⟨rfl,by decide,fun _ => ⟨_,rfl,fun j p hj => ?_⟩⟩
  match j,hj with
  | 0,hj =>
    obtain rfl:l1 = p:=by simpa using hj
    refine ⟨[.slice A1 l1.length c1],rfl,⟨A1,c1,rfl,hc1,h1⟩,fun i u hi => ?_⟩
    match i,hi with
    | 0,hi =>
      obtain rfl:Value.slice A1 l1.length c1 = u:=by simpa using hi
      exact (blk_cell h 0).trans rfl
    | i + 1,hi => exact absurd hi (by simp)
  | j + 1,hj => exact absurd hj (by simp)
theorem rg_boxes3 (w:World) (v1:Value) (cs:Array Value) (v3:Value) (t1 t2 t3:TypeId) (W:World) (hW:W = ((w.alloc (.cells #[v1] t1)).alloc (.cells cs t2)).alloc (.cells #[v3] t3)) :
    (W.heap[w.heap.size]? = some (.cells #[v1] t1 (0,0))∧W.heap[w.heap.size + 1]? = some (.cells cs t2 (0,0))∧W.heap[w.heap.size + 2]? = some (.cells #[v3] t3 (0,0)))∧Below w.heap.size w W∧W.heap.size = w.heap.size + 3:=by
  rw [hW]
  refine ⟨⟨blk_alloc (blk_alloc (blk_new w _) _) _,blk_alloc ?_ _,?_⟩,below_alloc (below_alloc (below_alloc (Below.refl _ _) _) _) _,by simp⟩
  · have:=blk_new (w.alloc (.cells #[v1] t1)) (.cells cs t2 (0,0))
    simpa using this
  · have:=blk_new ((w.alloc (.cells #[v1] t1)).alloc (.cells cs t2)) (.cells #[v3] t3 (0,0))
    simpa using this
end Go.Proofs.Ytonpekldcnankaa.X
end
section
namespace Go.Proofs.Ytonpekldcnankaa.X
open Go.RowKit Go.Proofs.YtonpekldcnankaaW.PrintWords Go.Proofs.YtonpekldcnankaaW.PrintLast Go.Proofs.YtonpekldcnankaaW.PrintMore Go.Proofs.Ytonpekldcnankaa.Ma
set_option linter.unusedVariables false
set_option linter.unusedSimpArgs false
theorem sp_ring_Minus {m0 la lb:List Int} (m1:Int) (m2:List Int) (hm:Wd m0) (ha:Wd la) (hb:Wd lb) (la':la.length = m0.length) (lb':lb.length = m0.length) (ma:nW la < nW m0) (mb:nW lb≤nW m0) (hn:m0.length≤300) :
    ring_Minus.f m0 m1 m2 la lb = some (wds m0.length ((nW la + nW m0 - nW lb) % nW m0)):=by
  have hM:=nW_lt hm
  unfold ring_Minus.f
  rw [sp_limbs_Sub ha hb (by omega),Option.bind_some,la',lb',Nat.max_self]
  by_cases c:nW la < nW lb
  · rw [if_pos c]
    simp only []
    rw [sp_limbs_AddIf (by decide) (wds_Wd _ _) hm (by rw [dgs_length];omega),Option.bind_some,dgs_length,Nat.max_self,if_pos (by decide),Nat.mod_eq_of_lt (show nW la + nW m0 - nW lb < nW m0 by omega)]
    simp only []
    rw [nW_wds (by omega)]
    congr 1
    show dgs _ _ _ = dgs _ _ _
    rw [show nW la + 18446744073709551616 ^ m0.length - nW lb + nW m0 = (nW la + nW m0 - nW lb) + 18446744073709551616 ^ m0.length by omega,← dgs_mod,Nat.add_mod_right,dgs_mod]
  · rw [if_neg c]
    simp only []
    rw [sp_limbs_AddIf (by decide) (wds_Wd _ _) hm (by rw [dgs_length];omega),Option.bind_some,dgs_length,Nat.max_self,if_neg (by decide),show nW la + nW m0 - nW lb = (nW la - nW lb) + nW m0 by omega,Nat.add_mod_right,Nat.mod_eq_of_lt (show nW la - nW lb < nW m0 by omega)]
    simp only []
    rw [nW_wds (by omega)]
    rfl
end Go.Proofs.Ytonpekldcnankaa.X
end
section
namespace Go.Proofs.Ytonpekldcnankaa.X
open Go.RowKit Go.Proofs.YtonpekldcnankaaW.PrintWords Go.Proofs.YtonpekldcnankaaW.PrintLast Go.Proofs.YtonpekldcnankaaW.PrintMore Go.Proofs.Ytonpekldcnankaa.Ma
set_option linter.unusedVariables false
set_option linter.unusedSimpArgs false
def Rw (n:Nat) (W:World) (A:Option Addr) (c:Nat) (x:Nat):Prop:=Kd.C (Kd.int .u64) W A n (wds n x)∧n≤c
theorem Rw.below {n:Nat} {W W':World} {A:Option Addr} {c x:Nat} (h:Rw n W A c x) (hb:Below W.heap.size W W'):Rw n W' A c x:=⟨Kd.C_below h.1 hb,h.2⟩
theorem Rw.drew {n:Nat} {W:World} {A:Option Addr} {c x:Nat} (h:Rw n W A c x):Rw n W.drew A c x:=⟨Kd.C_drew h.1,h.2⟩
theorem Rw.of_R {n:Nat} {W:World} {base:Nat} {ok:Nat→Prop} {v:Value} {x:Nat} (h:Kd.R (Kd.int .u64) 24 W base ok v (wds n x)):∃ A c,v = .slice A n c∧Rw n W A c x:=by
  obtain ⟨A,c,e⟩:=Kd.R_slice h
  rw [dgs_length] at e
  subst e
  obtain ⟨_,h2,h3⟩:=Kd.R_reads' h
  rw [dgs_length] at h3
  exact ⟨A,c,rfl,h3,h2⟩
end Go.Proofs.Ytonpekldcnankaa.X
end
section
namespace Go.Proofs.Ytonpekldcnankaa.X
open Go Go.RowKit Go.Proofs.YtonpekldcnankaaW.PrintWords Go.Proofs.YtonpekldcnankaaW.PrintLast Go.Proofs.YtonpekldcnankaaW.PrintMore Go.Proofs.Ytonpekldcnankaa.Ma
set_option linter.unusedVariables false
set_option linter.unusedSimpArgs false
def BxJ (w:World) (n gm gx:Nat) (cm:Array Value) (tM tN:TypeId) (A:Option Addr) (c x:Nat) (W:World):Prop :=
  W.heap[gm]? = some (.cells cm tM (0,0))∧W.heap[gx]? = some (.cells #[.slice A n c] tN (0,0))∧Rw n W A c x∧Below w.heap.size w W
def BxI (w:World) (n gm gx:Nat) (cm:Array Value) (tM tN:TypeId) (x:Nat) (W:World):Prop :=
  ∃ A c,W.heap[gm]? = some (.cells cm tM (0,0))∧W.heap[gx]? = some (.cells #[.slice A n c] tN (0,0))∧Rw n W A c x∧Below w.heap.size w W
section
variable {w W W':World} {n gm gx x x':Nat} {cm:Array Value} {tM tN:TypeId} {A:Option Addr} {c:Nat}
theorem BxI.call (h:BxI w n gm gx cm tM tN x W) (hb:Below W.heap.size W W'):BxI w n gm gx cm tM tN x W':=by
  obtain ⟨A,c,h1,h2,h3,h4⟩:=h
  exact ⟨A,c,blk_below h1 hb,blk_below h2 hb,h3.below hb,below_then h4 h4.size hb⟩
theorem Rw.put {g:Nat} {v:Value} {A':Option Addr} {n' c':Nat} {t:TypeId} (h:Rw n W A c x) (hg:W.heap[g]? = some (.cells #[.slice A' n' c'] t (0,0))):Rw n (W.setCell ⟨g,0,none⟩ v) A c x :=
  ⟨rng_C_cells (fun a k y hy => (World.cell?_of_block (Below.heap_setCell W ⟨g,0,none⟩ v a.block (rng_ne hg hy))).trans hy) h.1,h.2⟩
theorem Rw.kp {g:Nat} {A':Option Addr} {n' c':Nat} {t:TypeId} (h:Rw n W A c x) (hg:W.heap[g]? = some (.cells #[.slice A' n' c'] t (0,0))) (hk:KpY W.heap.size g W W'):Rw n W' A c x :=
  ⟨rng_C_cells (fun a k y hy => (World.cell?_of_block (hk.2 a.block (World.block_lt_of_cell? W a hy) (rng_ne hg hy))).trans hy) h.1,h.2⟩
theorem BxI.put (h:BxI w n gm gx cm tM tN x W) (hb:Below W.heap.size W W') (hne:gm≠gx) (hgx:w.heap.size≤gx) (hr:Rw n W' A c x'):BxJ w n gm gx cm tM tN A c x' (W'.setCell ⟨gx,0,none⟩ (.slice A n c)):=by
  obtain ⟨A1,c1,h1,h2,h3,h4⟩:=h.call hb
  exact ⟨blk_far h1 (p:=⟨gx,0,none⟩) hne _,blk_put h2 0 _ rfl,hr.put h2,below_set h4 hgx⟩
theorem BxJ.I (h:BxJ w n gm gx cm tM tN A c x W):BxI w n gm gx cm tM tN x W:=⟨A,c,h⟩
theorem KpY.put {n₀ g:Nat} {X Y:World} (h:KpY n₀ g X Y) (v:Value):KpY n₀ g X (Y.setCell ⟨g,0,none⟩ v) :=
  ⟨h.1.setCell (p:=⟨g,0,none⟩) (Nat.zero_le _) v,fun k h1 h2 => (Below.heap_setCell Y ⟨g,0,none⟩ v k h2).trans (h.2 k h1 h2)⟩
theorem KpY.call {n₀ g:Nat} {X Y Z:World} (h:KpY n₀ g X Y) (hn:n₀≤X.heap.size) (hb:Below Y.heap.size Y Z):KpY n₀ g X Z:=h.trans (KpY.of (hb.mono (Nat.le_trans hn h.1.size)))
theorem Rw.grown (h:Rw n W A c x) {row:Option Nat} (hg:W.grownBy W' row) (hr:∀ r,row = some r→∃ o:Obj,W.heap[r]? = some o∧o.isCells = false):Rw n W' A c x :=
  ⟨rng_C_cells (fun a k y hy => cell_kept hy hg hr) h.1,h.2⟩
theorem BxI.own {β:Type} {X:β→Nat} {B:Nat} (hB:w.heap.size≤B):OwnFrom B (fun (s:β) W => BxI w n gm gx cm tM tN (X s) W):=by
  rintro s W W' row ⟨A,c,h1,h2,h3,h4⟩ hg hr
  refine ⟨A,c,(grownBy_keeps_cells hg (fun r e => (hr r e).2) h1 rfl).trans h1,(grownBy_keeps_cells hg (fun r e => (hr r e).2) h2 rfl).trans h2,h3.grown hg (fun r e => (hr r e).2),?_⟩
  exact h4.grown hg h4.size (fun k e => Nat.le_trans hB (hr k e).1)
theorem KpY.own {β:Type} {n₀ g:Nat} {X:World} (hn:n₀≤X.heap.size):OwnFrom X.heap.size (fun (_:β) W => KpY n₀ g X W):=by
  rintro s W W' row h hg hr
  exact h.trans (KpY.of ((Below.refl n₀ W).grown hg (Nat.le_trans hn h.1.size) (fun k e => Nat.le_trans hn (hr k e).1)))
theorem below_others (h:Below W.heap.size W W'):KeepsOthers W W':=⟨h.size,fun k o hk _ => (h.block k (Array.getElem?_eq_some_iff.1 hk).1).trans hk⟩
end
theorem R_turned {W:World} {base D:Nat} {v:Value} {xs:List Int} {o o':Obj} (h:Kd.R (Kd.int .u64) 24 W base (fun _ => True) v xs) (hD:W.heap[D]? = some o) (ho:o.isCells = false):Kd.R (Kd.int .u64) 24 (W.putObj D o') base (fun _ => True) v xs:=by
  refine Kd.R_mono (Kd.R_move (Kd.R_bound h) (fun k hk => ?_)) (fun _ _ => trivial)
  obtain ⟨_,_,_,q,_,cells,hc⟩:=hk
  refine World.putObj_heap_other (fun e => ?_)
  subst e
  rw [hD] at hc
  cases hc
  exact absurd ho (by simp [Obj.isCells])
def valB (l:List Bool):Nat:=l.foldl (fun a b => 2 * a + b.toNat) 0
theorem valB_snoc (l:List Bool) (b:Bool):valB (l ++ [b]) = 2 * valB l + b.toNat:=by simp [valB]
end Go.Proofs.Ytonpekldcnankaa.X
end
section
namespace Go.Proofs.Ytonpekldcnankaa.X
open Go.RowKit Go.Proofs.YtonpekldcnankaaW.PrintWords Go.Proofs.YtonpekldcnankaaW.PrintLast Go.Proofs.YtonpekldcnankaaW.PrintMore
set_option linter.unusedVariables false
set_option linter.unusedSimpArgs false
def Bw (W:World) (A:Option Addr) (c:Nat) (l:List Int):Prop:=Kd.C (Kd.int .u32) W A l.length l∧l.length≤c
theorem Bw.below {W W':World} {A:Option Addr} {c:Nat} {l:List Int} (h:Bw W A c l) (hb:Below W.heap.size W W'):Bw W' A c l:=⟨Kd.C_below h.1 hb,h.2⟩
theorem Bw.of_V {W:World} {base:Nat} {ok:Nat→Prop} {v:Value} {l:List Int} (h:Kd.V (Kd.int .u32) 83 W base ok v l):∃ A c,v = .slice A l.length c∧Bw W A c l:=by
  obtain ⟨A,c,e⟩:=Kd.V_slice h
  subst e
  exact ⟨A,c,rfl,(Kd.V_reads' h).2.2,(Kd.V_reads' h).2.1⟩
theorem Bw.v {W:World} {A:Option Addr} {c:Nat} {l:List Int} (h:Bw W A c l):Kd.V (Kd.int .u32) 83 W W.heap.size (fun k_ => k_ < W.heap.size) (.slice A l.length c) l:=Kd.V_mk h.2 (Kd.C_F (Kd.heap_int .u32) h.1)
end Go.Proofs.Ytonpekldcnankaa.X
end
