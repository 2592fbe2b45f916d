/- Texts of the walk and of the plain laws, laid together by a program: Dm, X19. -/
import Derived.Test.YtonpekldcnankaaZC16
import Derived.Test.YtonpekldcnankaaZC17
set_option maxHeartbeats 1000000
set_option maxRecDepth 100000
section
namespace Go.Proofs.Ytonpekldcnankaa.X
open Go.RowKit Go.Proofs.YtonpekldcnankaaW.PrintWords Go.Proofs.YtonpekldcnankaaW.PrintLast Go.Proofs.YtonpekldcnankaaW.PrintMore Go.Proofs.Ytonpekldcnankaa.Ma
set_option linter.unusedVariables false
set_option linter.unusedSimpArgs false
attribute [local go_sem] max2_int min2_int max_two min_two max_three min_three max_four min_four
theorem ref_DivMod_less (P0_:Nat→Prop) (A0:Option Addr) (c0:Nat) (A1:Option Addr) (c1:Nat) (a m:Nat) (w:World)
    (hs0:Kd.V (Kd.int .u32) 83 w w.heap.size (fun k_ => P0_ k_) (.slice A0 (big a).length c0) (big a)) (hr1:Kd.C (Kd.int .u32) w A1 (big m).length (big m)) (hc1:(big m).length≤c1)
    (ha:blen a≤100000) (hm:blen m≤100000) (h:a < m) :
    Calls Try.prog 100 #[.slice A0 (big a).length c0,.slice A1 (big m).length c1] w fun e w' => ∃ v0_ v1_:Value,e = .returned (.tuple #[v0_,v1_])∧Kd.V (Kd.int .u32) 83 w' w.heap.size (fun k_ => (P0_ k_∨w.heap.size≤k_)) v0_ (big (a / m))∧Kd.V (Kd.int .u32) 83 w' w.heap.size (fun k_ => (P0_ k_∨w.heap.size≤k_)) v1_ (big (a % m))∧Below w.heap.size w w':=by
  obtain ⟨k1,hk1⟩:=sp_Cmp (x:=a) (y:=m) (by omega)
  have S1:=Aside0.mk (hk1 k1 (Nat.le_refl _))
  clear hk1
  obtain ⟨cm,hcm⟩:∃ cm,cmpI a m = cm:=⟨_,rfl⟩
  have dcm:decide (cm < 0) = true:=by rw [← hcm,decide_eq_true_eq];unfold cmpI;rw [if_pos h];omega
  have dcm':=of_decide_eq_true dcm
  rw [hcm] at S1
  rw [Nat.div_eq_of_lt h,Nat.mod_eq_of_lt h,big_zero]
  clear hcm h
  have HS:=Aside0.mk hs0
  have HM:=Aside0.mk hr1
  clear hs0 hr1
  go_enter Try.func100,Try.ntmps100
  go_wp2_with (go_at_call 60;refine (sconceref03_Cmp.calls k1 _ _ (big a) _ _ (big m) _ _ (Kd.V_reads' HS.out).2.2 (Kd.V_reads' HS.out).2.1 HM.out hc1 S1.out).mono ?_;rintro e w5 ⟨rfl,⟨nd,rfl⟩⟩)
  go_ret2
  exact ⟨_,_,rfl,Kd.V_nil _ _ _ _ _,Kd.V_drewN (Kd.V_mono HS.out (fun _ hk => .inl hk)) _,pw_below_drewN (Below.refl _ _) _⟩
theorem ref_DivMod_one (P0_:Nat→Prop) (A0:Option Addr) (c0:Nat) (A1:Option Addr) (c1:Nat) (a m:Nat) (w:World)
    (hs0:Kd.V (Kd.int .u32) 83 w w.heap.size (fun k_ => P0_ k_) (.slice A0 (big a).length c0) (big a)) (hr1:Kd.C (Kd.int .u32) w A1 (big m).length (big m)) (hc1:(big m).length≤c1)
    (ha:blen a≤100000) (hm:blen m = 1) (h:m≤a) :
    Calls Try.prog 100 #[.slice A0 (big a).length c0,.slice A1 (big m).length c1] w fun e w' => ∃ v0_ v1_:Value,e = .returned (.tuple #[v0_,v1_])∧Kd.V (Kd.int .u32) 83 w' w.heap.size (fun k_ => (P0_ k_∨w.heap.size≤k_)) v0_ (big (a / m))∧Kd.V (Kd.int .u32) 83 w' w.heap.size (fun k_ => (P0_ k_∨w.heap.size≤k_)) v1_ (big (a % m))∧Below w.heap.size w w':=by
  have hm0:m≠0:=fun e => by rw [e,blen_zero] at hm;omega
  have hml:m < 4294967296:=by have:=blen_lt m;rw [hm] at this;simpa using this
  obtain ⟨k1,hk1⟩:=sp_Cmp (x:=a) (y:=m) (by omega)
  obtain ⟨k2,hk2⟩:=sp_ref_divSmall (a:=a) (d:=m) (by omega) hm0 hml
  have S1:=Aside0.mk (hk1 k1 (Nat.le_refl _))
  have S2:=Aside0.mk (hk2 k2 (Nat.le_refl _))
  clear hk1 hk2
  obtain ⟨cm,hcm⟩:∃ cm,cmpI a m = cm:=⟨_,rfl⟩
  have dcm:decide (cm < 0) = false:=by rw [← hcm,decide_eq_false_iff_not];unfold cmpI;rw [if_neg (by omega)];split <;> omega
  have dcm':=of_decide_eq_false dcm
  rw [hcm] at S1
  have hbl:(big m).length = 1:=by rw [big_length,hm]
  obtain ⟨ad,f1,hx⟩:=Kd.at_int hr1 0 (by omega) (by rw [hbl];omega)
  have hrd:rd (big m) 0 = (m:Int):=by
    have:=rdA (big m) 0
    rw [at0_big,Nat.pow_zero,Nat.div_one,Nat.mod_eq_of_lt hml] at this
    exact this
  rw [hrd,show ad.add (0:Int).toNat = ad by simp [Addr.add]] at hx
  subst f1
  have HS:=Aside0.mk hs0
  have HM:=Aside0.mk hr1
  have e1:(((big m).length:Int) = 1) = True:=eq_true (by rw [hbl];rfl)
  have e2:(((big m).length:Int) == 1) = true:=beq_iff_eq.mpr (by rw [hbl];rfl)
  have e3:decide ((0:Int) < ((big m).length:Int)) = true:=decide_eq_true (by rw [hbl];omega)
  have e4:(0:Int) < ((big m).length:Int):=by rw [hbl];omega
  clear hs0 hr1 hcm h hrd hbl hm0 hml
  go_enter Try.func100,Try.ntmps100
  go_wp2_with (first
    | (go_at_call 60;refine (sconceref03_Cmp.calls k1 _ _ (big a) _ _ (big m) _ _ (Kd.V_reads' HS.out).2.2 (Kd.V_reads' HS.out).2.1 HM.out hc1 S1.out).mono ?_;rintro e w5 ⟨rfl,⟨nd,rfl⟩⟩)
    | (go_at_call 138;refine (sconceref03_divSmall.calls k2 _ _ (big a) _ _ _ _ (Kd.C_below (Kd.V_reads' HS.out).2.2 (pw_below_drewN (Below.refl _ _) nd)) (Kd.V_reads' HS.out).2.1 S2.out).mono ?_;rintro e w6 ⟨v1,v2,rfl,ho1,ho2,hb⟩))
  go_ret2
  exact ⟨_,_,rfl,Kd.V_mono ho1 (fun _ hk => .inr hk),Kd.V_mono ho2 (fun _ hk => .inr hk),below_then (pw_below_drewN (Below.refl _ _) _) (Nat.le_refl _) hb⟩
def DmI (w w3 w4:World) (gu gq c4 c7 La Lq U V i:Nat) (wr:World):Prop :=
  Kd.R (Kd.int .u32) 83 wr 0 (fun k => k = gu) (.slice (some ⟨gu,0,none⟩) La c4) (dgs 4294967296 La (U % (V * 4294967296 ^ i))) ∧
  Kd.R (Kd.int .u32) 83 wr 0 (fun k => k = gq) (.slice (some ⟨gq,0,none⟩) Lq c7) (List.replicate i 0 ++ dgs 4294967296 (Lq - i) (U / V / 4294967296 ^ i)) ∧
  (∀ k,w3.heap.size≤k→k < w4.heap.size→wr.heap[k]? = w4.heap[k]?)∧Below w.heap.size w wr
theorem R_only {w:World} {base:Nat} {ok:Nat→Prop} {g L c:Nat} {xs:List Int} (h:Kd.R (Kd.int .u32) 83 w base ok (.slice (some ⟨g,0,none⟩) L c) xs):Kd.R (Kd.int .u32) 83 w 0 (fun k => k = g) (.slice (some ⟨g,0,none⟩) L c) xs :=
  Kd.R_lower (Kd.R_mono (Kd.R_tight rfl h) (fun k hk => by simpa [Value.ownBlock] using hk)) (Nat.zero_le _)
theorem DmI.start {w w3 w4 w5 w6:World} {b1 b2 gu gq c4 c7 La Lq U V:Nat} {ok1 ok2:Nat→Prop} {lu0:List Int}
    (hu:Kd.R (Kd.int .u32) 83 w3 b1 ok1 (.slice (some ⟨gu,0,none⟩) lu0.length c4) lu0) (hq:Kd.R (Kd.int .u32) 83 w6 b2 ok2 (.slice (some ⟨gq,0,none⟩) Lq c7) (List.replicate Lq 0))
    (h3:Below w.heap.size w w3) (h4:Below w3.heap.size w3 w4) (h5:Below w4.heap.size w4 w5) (h6:Below w5.heap.size w5 w6)
    (hL:La≤lu0.length) (hl:lu0.take La = dgs 4294967296 La U) (hU:U < V * 4294967296 ^ Lq):DmI w w3 w4 gu gq c4 c7 La Lq U V Lq w6:=by
  have h46:=below_then h5 h5.size h6
  have h36:=below_then h4 h4.size h46
  refine ⟨?_,?_,fun k _ hk => h46.block k hk,below_then h3 h3.size h36⟩
  · have:=R_only (Kd.R_take (Kd.R_below hu h36) hL)
    rw [hl] at this
    rw [Nat.mod_eq_of_lt hU]
    exact this
  · have:=R_only hq
    rw [Nat.sub_self]
    simpa [dgs] using this
theorem DmI.guessed {w w3 w4 wr w7:World} {base gu gq c4 c7 La Lq U V j n:Nat} (hI:DmI w w3 w4 gu gq c4 c7 La Lq U V (j + 1) wr) (hgu:gu < w3.heap.size) (hgq:w4.heap.size≤gq) (hb:w3.heap.size≤w4.heap.size) (hwu:w.heap.size≤gu) (hwq:w.heap.size≤gq) (hj1:j + 1≤Lq)
    (hV:V < 4294967296 ^ n) (hV0:0 < V) (hj:j + (n + 1)≤La) {d:Int}
    (hd:d = (((U % (V * 4294967296 ^ (j + 1)) / 4294967296 ^ j) / V:Nat):Int))
    (hr:Kd.R (Kd.int .u32) 83 w7 0 (fun k => k = gu) (.slice (some ⟨gu,0,none⟩) La c4) (spl (dgs 4294967296 La (U % (V * 4294967296 ^ (j + 1)))) j (n + 1) (U % (V * 4294967296 ^ (j + 1)) / 4294967296 ^ j % V))) (hg:wr.grownBy w7 (some gu)) :
    (∃ x,w7.cell? ⟨gq,j,none⟩ = some x)∧w7.frozen? ⟨gq,j,none⟩ = false∧DmI w w3 w4 gu gq c4 c7 La Lq U V j (w7.setCell ⟨gq,j,none⟩ (.int .u32 d)):=by
  obtain ⟨h1,h2,h3,h4⟩:=hI
  have hne:gq≠gu:=by omega
  have hq7:=Kd.R_grown h2 hg (fun k hk e => by rw [hk] at e;exact hne (Option.some.inj e))
  have hlq:(List.replicate (j + 1) (0:Int) ++ dgs 4294967296 (Lq - (j + 1)) (U / V / 4294967296 ^ (j + 1))).length = Lq:=by rw [List.length_append,List.length_replicate,dgs_length];omega
  obtain ⟨hx,hf⟩:=Kd.R_celln 0 hq7 (j:Int) (by omega) (by omega)
  obtain ⟨hP,hQ⟩:=Kd.R_putg hq7 (j:Int) d
  rw [Int.toNat_natCast] at hx hf hP hQ
  rw [dm_qset hj1 d (by rw [hd,dm_digit])] at hP
  rw [dm_spl hV hV0 hj] at hr
  refine ⟨⟨_,hx⟩,hf,Kd.R_grown hr hQ (fun k hk e => by rw [hk] at e;exact hne (Option.some.inj e).symm),hP,?_,?_⟩
  · intro k k1 k2
    have hkr:wr.heap[k]? = w4.heap[k]?:=h3 k k1 k2
    have hks:k < w4.heap.size:=k2
    have hkl:k < wr.heap.size:=by
      rcases Nat.lt_or_ge k wr.heap.size with h | h
      · exact h
      · rw [Array.getElem?_eq_none h,Array.getElem?_eq_getElem hks] at hkr;simp at hkr
    have e7:=hg.block k hkl (fun e => by have:=Option.some.inj e;omega)
    have hk7:k < w7.heap.size:=Nat.lt_of_lt_of_le hkl hg.size
    exact (hQ.block k hk7 (fun e => by have:=Option.some.inj e;omega)).trans (e7.trans hkr)
  · have hb7:=pw_below_grown h4 (some gu) h4.size hg (fun k hk => by cases hk;exact hwu)
    exact pw_below_grown hb7 (some gq) hb7.size hQ (fun k hk => by cases hk;exact hwq)
theorem DmI.uR {w w3 w4 wr:World} {gu gq c4 c7 La Lq U V i:Nat} (hI:DmI w w3 w4 gu gq c4 c7 La Lq U V i wr):Kd.R (Kd.int .u32) 83 wr 0 (fun k => k = gu) (.slice (some ⟨gu,0,none⟩) La c4) (dgs 4294967296 La (U % (V * 4294967296 ^ i))):=hI.1
theorem DmI.vC {w w3 w4 wr:World} {b:Nat} {gu gq c4 c7 La Lq U V i c5:Nat} {A5:Option Addr} (hI:DmI w w3 w4 gu gq c4 c7 La Lq U V i wr)
    (hv:Kd.V (Kd.int .u32) 83 w4 b (fun k_ => w3.heap.size≤k_) (.slice A5 (big V).length c5) (big V)):Kd.C (Kd.int .u32) wr A5 (big V).length (big V) :=
  (Kd.V_at hv).2.2 wr (fun k hk hk2 => hI.2.2.1 k hk hk2)
theorem ref_DivMod_big (P0_:Nat→Prop) (A0:Option Addr) (c0:Nat) (A1:Option Addr) (c1:Nat) (a m:Nat) (w:World)
    (hs0:Kd.V (Kd.int .u32) 83 w w.heap.size (fun k_ => P0_ k_) (.slice A0 (big a).length c0) (big a)) (hr1:Kd.C (Kd.int .u32) w A1 (big m).length (big m)) (hc1:(big m).length≤c1)
    (ha:blen a≤100000) (hm:blen m≤100000) (hm2:2≤blen m) (h:m≤a) :
    Calls Try.prog 100 #[.slice A0 (big a).length c0,.slice A1 (big m).length c1] w fun e w' => ∃ v0_ v1_:Value,e = .returned (.tuple #[v0_,v1_])∧Kd.V (Kd.int .u32) 83 w' w.heap.size (fun k_ => (P0_ k_∨w.heap.size≤k_)) v0_ (big (a / m))∧Kd.V (Kd.int .u32) 83 w' w.heap.size (fun k_ => (P0_ k_∨w.heap.size≤k_)) v1_ (big (a % m))∧Below w.heap.size w w':=by
  have hm0:m≠0:=fun e => by rw [e,blen_zero] at hm2;omega
  obtain ⟨k1,hk1⟩:=sp_Cmp (x:=a) (y:=m) (by omega)
  have S1:=Aside0.mk (hk1 k1 (Nat.le_refl _))
  clear hk1
  obtain ⟨cm,hcm⟩:∃ cm,cmpI a m = cm:=⟨_,rfl⟩
  have dcm:decide (cm < 0) = false:=by rw [← hcm,decide_eq_false_iff_not];unfold cmpI;rw [if_neg (by omega)];split <;> omega
  have dcm':=of_decide_eq_false dcm
  rw [hcm] at S1
  have hbl:(big m).length = blen m:=big_length m
  have e1:(((big m).length:Int) == 1) = false:=beq_eq_false_iff_ne.mpr (by rw [hbl];omega)
  have e2:(((big m).length:Int) = 1) = False:=eq_false (by rw [hbl];omega)
  have e3:IntKind.i64.wrap (((big m).length:Int) - 1) = ((blen m - 1:Nat):Int):=by rw [hbl,i64_w,w64 (by omega) (by omega)];omega
  have e4:decide (((blen m - 1:Nat):Int) < ((big m).length:Int)) = true:=decide_eq_true (by rw [hbl];omega)
  have e5:((blen m - 1:Nat):Int) < ((big m).length:Int):=by rw [hbl];omega
  obtain ⟨ad,f1,hx⟩:=Kd.at_int hr1 ((blen m - 1:Nat):Int) (by omega) (by rw [hbl];omega)
  obtain ⟨ht0,ht1⟩:=top_digit hm0
  rw [rdA,at0_big,Nat.mod_eq_of_lt ht1,Int.toNat_natCast] at hx
  have hshl:=fun s => blen_shl (s:=s) hm0
  generalize hmt:m / 4294967296 ^ (blen m - 1) = mt at *
  subst f1
  have HS:=Aside0.mk hs0
  have HM:=Aside0.mk hr1
  have HSH:=Aside0.mk hshl
  clear hs0 hr1 hcm hbl hmt hshl
  go_enter Try.func100,Try.ntmps100
  go_wp2_with (go_at_call 60;refine (sconceref03_Cmp.calls k1 _ _ (big a) _ _ (big m) _ _ (Kd.V_reads' HS.out).2.2 (Kd.V_reads' HS.out).2.1 HM.out hc1 S1.out).mono ?_;rintro e w5 ⟨rfl,⟨nd,rfl⟩⟩)
  have HB0:=Aside0.mk (pw_below_drewN (Below.refl w.heap.size w) nd)
  go_loopg [6] 32 (fun qq v6 wr => ∃ s:Nat,v6 = .int .i64 s∧s + qq = 32∧mt * 2 ^ s < 4294967296∧Aside0 (Below w.heap.size w wr))
  case atStart => exact ⟨0,rfl,rfl,by omega,HB0⟩
  case round =>
    obtain ⟨s,rfl,hsq,hms,HB⟩:=hrel
    have hcell:=(HB.out.cell (World.block_lt_of_cell? w _ hx)).trans hx
    have hs31:s≤31:=by
      rcases Nat.lt_or_ge 31 s with h5 | h5
      · exfalso
        have h6:=Nat.pow_le_pow_right (show 0 < 2 by decide) (show 32≤s by omega)
        have h7:=Nat.le_mul_of_pos_left (2 ^ s) ht0
        omega
      · exact h5
    have hcast:((mt:Int) / 2 ^ (31 - s)) = ((mt / 2 ^ (31 - s):Nat):Int):=by simp
    have hz2:mt / 2 ^ (31 - s) < 2:=(Nat.div_lt_iff_lt_mul (Nat.pow_pos (by decide))).2 (by
      have e:4294967296 = 2 * 2 ^ (31 - s) * 2 ^ s:=by rw [Nat.mul_assoc,← Nat.pow_add,show 31 - s + s = 31 by omega]
      rw [e] at hms
      exact Nat.lt_of_mul_lt_mul_right hms)
    cases gk with
    | zero => omega
    | succ k9 =>
      rcases Nat.eq_zero_or_pos (mt / 2 ^ (31 - s)) with hz | hz
      · have hms2:mt * 2 ^ (s + 1) < 4294967296:=by
          have h1:=(Nat.div_eq_zero_iff_lt (Nat.pow_pos (by decide))).1 hz
          have h2:mt * 2 ^ (s + 1) < 2 ^ (31 - s) * 2 ^ (s + 1):=Nat.mul_lt_mul_of_pos_right h1 (Nat.pow_pos (by decide))
          rw [← Nat.pow_add,show 31 - s + (s + 1) = 32 by omega] at h2
          exact h2
        have hbit:(Go.bits .and .u32 ((mt:Int) / 2 ^ (31 - s)) 1 == 0) = true:=by rw [hcast,hz];decide
        have HMS:=Aside0.mk hms2
        clear hms hms2 hz hz2 hcast
        go_wp2
        go_roundg k9
        case measure => omega
        case rel => exact ⟨s + 1,by go_num,by omega,HMS.out,HB⟩
      · have hz1:mt / 2 ^ (31 - s) = 1:=by omega
        have hbit:(Go.bits .and .u32 ((mt:Int) / 2 ^ (31 - s)) 1 == 0) = false:=by rw [hcast,hz1];decide
        have hbm2:=HSH.out s hms
        clear hms hz hz1 hz2 hcast
        have hsl:(2:Nat) ^ s≤2 ^ 32:=Nat.pow_le_pow_right (by decide) (by omega)
        have hU0:blen (a * 2 ^ s)≤blen a + 1:=blen_le (by
          rw [Nat.pow_succ]
          have:=blen_lt a
          calc a * 2 ^ s≤a * 2 ^ 32:=Nat.mul_le_mul_left _ hsl
            _ < 4294967296 ^ blen a * 4294967296:=Nat.mul_lt_mul_of_pos_right this (by decide))
        have hU1:blen a≤blen (a * 2 ^ s):=blen_mono (Nat.le_mul_of_pos_right _ (Nat.pow_pos (by decide)))
        obtain ⟨k2,hk2⟩:=sp_Shl (x:=a) (n:=s) (by omega) (by omega)
        obtain ⟨k3,hk3⟩:=sp_Shl (x:=m) (n:=s) (by omega) (by omega)
        have hdu:dgH (big (a * 2 ^ s) ++ [0,0]):=by rw [dgH,dg_append];exact ⟨big_dg _,dg_pair ⟨by omega,by omega⟩ ⟨by omega,by omega⟩⟩
        have hnu:nH (big (a * 2 ^ s) ++ [0,0]) = a * 2 ^ s:=by rw [nH,num_append,num_big];simp [num]
        obtain ⟨k4,hk4⟩:=sp_trim' (x:=a * 2 ^ s) hdu (by rw [List.length_append,big_length];simp;omega) hnu
        have S2:=Aside0.mk (hk2 k2 (Nat.le_refl _))
        have S3:=Aside0.mk (hk3 k3 (Nat.le_refl _))
        have S4:=Aside0.mk (hk4 k4 (Nat.le_refl _))
        clear hk2 hk3 hk4 hsl
        have hst:=dm_start (s:=s) hm0 (blen_mono h)
        generalize hUv:a * 2 ^ s = U at *
        generalize hVv:m * 2 ^ s = V at *
        have HUV:=Aside0.mk (And.intro hUv hVv)
        clear hUv hVv
        obtain ⟨lu0,hlu0⟩:∃ l,l = big U ++ [0,0]:=⟨_,rfl⟩
        rw [← hlu0] at hdu hnu S4
        have hll0:lu0.length = blen U + 2:=by rw [hlu0,List.length_append,big_length];rfl
        have HL0:=Aside0.mk hlu0
        replace hll0:=Aside0.mk hll0
        clear hlu0
        have hma:blen m≤blen a:=blen_mono h
        obtain ⟨La,Lq,g1,g2,g3,g4,hLL,hLb,hLs,hLqs,hLq0⟩:=dm_facts (a:=a) (m:=m) (U:=U) (V:=V) ha hm2 hma hU0 hU1 hbm2
        rw [← hLL.1,← hLL.2] at hst
        have htk:=dm_take (n:=La) hdu (by have:=hll0.out;omega) hnu
        have HST:=Aside0.mk (And.intro hst htk)
        have HLA:=Aside0.mk hLL
        clear hLL hst htk
        have HBM:=Aside0.mk hbm2
        clear hbm2
        go_wp2_with (first
          | ((with_reducible refine gate_callee (f:=102) rfl ?_);refine goesL_ (some 43) rfl rfl Try.func102 (by kernel_rfl) rfl #[.slice A0 (big a).length c0,.int .i64 (s:Int)] rfl (by (try simp only [List.map_toArray,List.map_cons,List.map_nil]);first | done | rfl) ?_;(with_reducible refine (Shl_own k2 _ _ (big a) (s:Int) (big U) _ ?s1 ?s2 S2.out).mono ?_);(case s1 => exact Kd.C_below (Kd.V_reads' HS.out).2.2 HB.out);(case s2 => exact (Kd.V_reads' HS.out).2.1);rintro e w1 ⟨v1,rfl,ho1,hb1⟩;refine ⟨_,rfl,?_⟩;have HO1:=Aside0.mk ho1;have HB1:=Aside0.mk hb1;clear ho1 hb1;obtain ⟨A2,c2,e9⟩:=Kd.R_slice HO1.out;subst e9)
          | ((with_reducible refine gate_dst (N:=44) rfl ?_);refine Kd.R_lit (Kd.int .u32) _ 83 ?hg (N:=44) ?hd (xs:=([0,0]:List Int)) (inner:=[.int .u32 0,.int .u32 0]) (ok:=fun _ => True) (okp:=fun _ => True) ?hr ?hp (fun _ hk => hk) trivial (Below.refl _ _) (Nat.le_refl _) (by simp) ?_;(case hd => rfl);(case hg => rfl);(case hr => first | (go_simp;done) | (go_simp;rfl));(case hp => exact (Reps.one (show Kd.M (Kd.int .u32) _ _ _ 0 [.int .u32 0] from rfl) (Reps.one (show Kd.M (Kd.int .u32) _ _ _ 0 [.int .u32 0] from rfl) (Reps.none _ _))));intro v2 w2 ho2 hb2 hg2 hn2;clear hg2 hn2;have HO2:=Aside0.mk ho2;have HB2:=Aside0.mk hb2;clear ho2 hb2;obtain ⟨A3,c3,e9⟩:=Kd.R_slice HO2.out;subst e9)
          | ((with_reducible refine gate_builtin (b:=.append) (xs:=#[.tmp 43,.tmp 44]) rfl ?_);at_builtin;refine Kd.R_append_rows (Kd.int .u32) (w0:=wr) wr.heap.size rfl (.tmp 43) (.tmp 44) 48 83 (.int .u32 0) 4 rfl Try.underlying48 info_u32 rfl (by decide) (by omega) (.slice A2 (big U).length c2) (big U) [0,0] A3 2 c3 (fun k_ => wr.heap.size≤k_) (fun _ => False) rfl rfl ?aO ?aR (fun _ _ h => h) (fun _ h => h.elim) ?aF ?aB ?aS ?aL ?_;(case aO => exact Kd.R_below HO1.out HB2.out);(case aR => exact (Kd.R_reads' HO2.out).2.2);(case aF => exact fun k_ hk => Nat.le_trans (below_then HB1.out HB1.out.size HB2.out).size hk);(case aB => exact below_then HB1.out HB1.out.size HB2.out);(case aS => exact (below_then HB1.out HB1.out.size HB2.out).size);(case aL => rw [big_length];omega);intro v3 w3 ho3 hb3 hg3 hat3;rw [← HL0.out] at ho3;have HO3:=Aside0.mk ho3;have HB3:=Aside0.mk hb3;clear ho3 hb3 hg3 hat3;obtain ⟨gu,c4,e9,bgu,lgu,_⟩:=Kd.R_form HO3.out (by rw [hll0.out];omega);subst e9;have HGU:=Aside0.mk (And.intro bgu lgu);clear bgu lgu)
          | ((with_reducible refine gate_callee (f:=102) rfl ?_);refine goesL_ (some 48) rfl rfl Try.func102 (by kernel_rfl) rfl #[.slice (some ad) (big m).length c1,.int .i64 (s:Int)] rfl (by (try simp only [List.map_toArray,List.map_cons,List.map_nil]);first | done | rfl) ?_;(with_reducible refine (sconceref03_Shl.calls k3 _ _ (big m) (s:Int) (big V) _ ?s1 ?s2 S3.out).mono ?_);(case s1 => exact Kd.C_below HM.out (below_then HB.out HB.out.size HB3.out));(case s2 => exact hc1);rintro e w4 ⟨v4,rfl,ho4,hb4⟩;refine ⟨_,rfl,?_⟩;have HO4:=Aside0.mk ho4;have HB4:=Aside0.mk hb4;clear ho4 hb4;obtain ⟨A5,c5,e9⟩:=Kd.V_slice HO4.out;subst e9;have HT4:=Aside0.mk (Kd.V_mono (ok':=fun _ => True) (Kd.R_V (base':=w4.heap.size) (Kd.R_below HO3.out HB4.out)) (fun _ _ => trivial)))
          | (go_at_call 85;refine (sconceref03_trim.calls k4 (fun _ => True) _ _ lu0 _ _ HT4.out S4.out).mono ?_;rintro e w5 ⟨v5,rfl,ho5,hb5⟩;have HO5:=Aside0.mk ho5;have HB5:=Aside0.mk hb5;clear ho5 hb5;obtain ⟨A6,c6,e9⟩:=Kd.V_slice HO5.out;subst e9;obtain ⟨i0,hi0,_⟩:=info_parts info_u32;have hcut:=cut_to (P:=Try.prog) 48 83 .i64 Try.underlying48 hi0 (some ⟨gu,0,none⟩) lu0.length c4 (La:Int) (by omega) (by have:=hll0.out;omega) (Kd.R_reads' HO3.out).2.1;rw [Int.toNat_natCast] at hcut;clear hi0)
          | ((with_reducible refine gate_dst (N:=64) rfl ?_);go_loud (refine Kd.R_make (Kd.int .u32) _ 83 rfl (N:=64) rfl 48 _ _ rfl (Lq:Int) rfl rfl Try.underlying48 (.int .u32 0) 4 info_u32 rfl (by decide) (by omega) 0 (ok:=fun k_ => w5.heap.size≤k_) (okp:=fun k_ => w5.heap.size≤k_) rfl (fun _ hk => hk) (Nat.le_refl _) (by omega) (by simp only [Int.toNat_natCast];omega) (Below.refl _ _) (Nat.le_refl _) ?_);intro v6 w6 ho6 hb6 hg6 hnew6;clear hg6 hnew6;rw [Int.toNat_natCast] at ho6;have HO6:=Aside0.mk ho6;have HB6:=Aside0.mk hb6;clear ho6 hb6;obtain ⟨gq,c7,e9,_⟩:=Kd.R_form HO6.out (by rw [List.length_replicate];omega);rw [List.length_replicate] at e9;subst e9))
        have hgq:w5.heap.size≤gq:=HO6.out.1 gq rfl
        have hwu:w.heap.size≤gu:=Nat.le_trans HB.out.size HGU.out.1
        have h34:=HB4.out.size
        have h45:=HB5.out.size
        have h03:=(below_then HB.out HB.out.size HB3.out).size
        have hgul:=HGU.out.2
        have hV0:V≠0:=fun e => by have:=HST.out.1;rw [e,Nat.zero_mul] at this;omega
        have hVn:=blen_lt V
        have hVb:blen V = blen m:=HBM.out
        have hLa:=HLA.out
        have hcL:lu0.length≤c4:=(Kd.R_reads' HO3.out).2.1
        have hLu:=hll0.out
        have HI:=Aside0.mk (DmI.start HO3.out HO6.out (below_then HB.out HB.out.size HB3.out) HB4.out HB5.out HB6.out (by omega) HST.out.2 HST.out.1)
        have hcv:(big V).length≤c5:=(Kd.V_reads' HO4.out).2.1
        have HF0:=Aside0.mk (show (w4.heap.size≤gq∧w.heap.size≤gu∧w3.heap.size≤w4.heap.size∧w.heap.size≤gq∧gu < w3.heap.size∧La≤c4∧V≠0∧blen V = blen m∧La = blen a + 1∧Lq = La - blen m∧blen V≤La∧blen V≤100000) from ⟨by omega,hwu,h34,by omega,hgul,by omega,hV0,hVb,hLa.1,hLa.2,by omega,by omega⟩)
        have HVn:=Aside0.mk hVn
        have HQ0:=Aside0.mk (show U / V < 4294967296 ^ Lq from (Nat.div_lt_iff_lt_mul (by omega)).2 (by rw [Nat.mul_comm];exact HST.out.1))
        clear hgq hwu h34 h45 h03 hgul hV0 hVn hVb hLa hcL hLu hcut HO3 HO6 HB3 HB4 HB5 HB6 HGU HBM HLA HST HO5 HT4 HB2 HB1 HO1 HO2 hll0 HL0 g1 g2 g3 g4 S1 S2 S3 S4 HSH hcell hbit dcm dcm' e1 e2 e3 e4 e5 hx
        clear hdu hnu hU0 hU1 hma hLb hLs hLqs hLq0
        go_loopg [11] Lq (fun qq v11 wr => ∃ j:Int,v11 = .int .i64 j∧j + 1 = (qq:Int)∧qq≤Lq∧Aside0 (DmI w w3 w4 gu gq c4 c7 La Lq U V qq wr))
        case atStart => exact ⟨_,rfl,by omega,Nat.le_refl _,HI⟩
        case round =>
          clear HI
          obtain ⟨j,rfl,hjq,hqL,HI⟩:=hrel
          obtain ⟨f1,f2,f3,f4,f5,f6,f7,f8,f9,f10,f11,f12⟩:=HF0.out
          have hbV:(big V).length = blen V:=big_length V
          rcases Nat.eq_zero_or_pos gk with hz | hz
          · subst hz
            obtain rfl:j = -1:=by omega
            have hU0:=Aside0.mk (HI.out.uR)
            have hD0:decide ((0:Int)≤-1) = false:=by decide
            obtain ⟨z1,z2,_,z4⟩:=HI.out
            rw [Nat.pow_zero,Nat.mul_one] at z1
            rw [Nat.pow_zero,Nat.div_one,List.replicate_zero,List.nil_append,Nat.sub_zero] at z2
            obtain ⟨q1,q2⟩:=dm_nat HUV.out
            have hUm:U % V < V:=Nat.mod_lt _ (by omega)
            have hQb:U / V < 4294967296 ^ Lq:=HQ0.out
            have hlz:(dgs 4294967296 Lq (U / V)).length = Lq:=dgs_length _ _ _
            have hlu:((dgs 4294967296 La (U % V)).take (blen V)).length = blen V:=by rw [List.length_take,dgs_length];omega
            have hte:(dgs 4294967296 La (U % V)).take (blen V) = dgs 4294967296 (blen V) (U % V):=dm_take (dgH_dgs _ _) (by rw [dgs_length];omega) (by rw [nH,num_dgs,Nat.mod_eq_of_lt (Nat.lt_of_lt_of_le hUm (Nat.le_trans (Nat.le_of_lt HVn.out) (Nat.pow_le_pow_right (by decide) (by omega))))])
            obtain ⟨kA,hkA⟩:=sp_trim' (l:=dgs 4294967296 Lq (U / V)) (x:=U / V) (dgH_dgs _ _) (by rw [dgs_length];omega) (by rw [num_dgs,Nat.mod_eq_of_lt hQb])
            obtain ⟨kB,hkB⟩:=sp_trim' (l:=dgs 4294967296 (blen V) (U % V)) (x:=U % V) (dgH_dgs _ _) (by rw [dgs_length];omega) (by rw [num_dgs,Nat.mod_eq_of_lt (Nat.lt_trans hUm HVn.out)])
            obtain ⟨kC,hkC⟩:=sp_ref_Shr (x:=U % V) (n:=s) (by have:=blen_mono (Nat.le_of_lt hUm);omega) (by omega)
            rw [q2] at hkC
            rw [q1] at hkA z2 hlz
            have SA:=Aside0.mk (hkA kA (Nat.le_refl _))
            have SB:=Aside0.mk (hkB kB (Nat.le_refl _))
            have SC:=Aside0.mk (hkC kC (Nat.le_refl _))
            have Z1:=Aside0.mk (Kd.R_take (m:=blen V) z1 (by rw [dgs_length];omega))
            rw [hte] at Z1
            have hlB:(dgs 4294967296 (blen V) (U % V)).length = blen V:=dgs_length _ _ _
            have ZQ:=Aside0.mk z2
            have ZB:=Aside0.mk z4
            obtain ⟨lq,hlq⟩:∃ l,l = dgs 4294967296 Lq (a / m):=⟨_,rfl⟩
            obtain ⟨lr,hlr⟩:∃ l,l = dgs 4294967296 (blen V) (U % V):=⟨_,rfl⟩
            rw [← hlq] at ZQ SA hlz
            rw [← hlr] at Z1 SB hlB
            obtain ⟨Rm,hRm⟩:∃ r,r = U % V:=⟨_,rfl⟩
            rw [← hRm] at SB SC
            obtain ⟨i0,hi0,_⟩:=info_parts info_u32
            have hcut:=cut_to (P:=Try.prog) 48 83 .i64 Try.underlying48 hi0 (some ⟨gu,0,none⟩) La c4 (blen V:Int) (by omega) (by omega) f6
            rw [Int.toNat_natCast] at hcut
            have TQ:∀ W:World,Below wr.heap.size wr W→Calls Try.prog 85 #[.slice (some ⟨gq,0,none⟩) Lq c7] W fun e w' => ∃ v0_:Value,e = .returned (v0_)∧Kd.V (Kd.int .u32) 83 w' W.heap.size (fun k_ => (w.heap.size≤k_)) v0_ (big (a / m))∧Below W.heap.size W w':=by
              intro W hW
              have hR:=Kd.R_below ZQ.out hW
              have hh:=sconceref03_trim.calls kA (fun k => k = gq) (some ⟨gq,0,none⟩) c7 lq _ W (by rw [hlz];exact Kd.R_V hR) SA.out
              rw [hlz] at hh
              refine hh.mono ?_
              rintro e w' ⟨v0,rfl,h1,h2⟩
              exact ⟨v0,rfl,Kd.V_mono h1 (fun k hk => hk.elim (fun e => e ▸ f4) (fun hk => Nat.le_trans (below_then ZB.out ZB.out.size hW).size hk)),h2⟩
            have TA:=Aside0.mk TQ
            have HN:=Aside0.mk (And.intro hlB (And.intro hlz hbV))
            clear z1 z2 z4 hkA hkB hkC TQ hlq hlr hRm hi0 hte hlu hlz hlB hQb hUm q1 q2 hU0 f7 f8 f9 f10
            go_wp2
            clear hbV
            go_region_law (first
              | (refine goes_ Try.func85 (by kernel_rfl) rfl #[.slice (some ⟨gq,0,none⟩) Lq c7] (by rfl) rfl rfl (by simp only [List.map_toArray,List.map_cons,List.map_nil];rfl) ?_;with_reducible refine (TA.out _ ?b1).mono ?_;(case b1 => exact Below.drew (Below.refl _ _));rintro e w8 ⟨v8,rfl,ho8,hb8⟩;refine ⟨_,rfl,?_⟩;have HO8:=Aside0.mk ho8;have HB8:=Aside0.mk (below_then (Below.drew (Below.refl wr.heap.size wr)) (Nat.le_refl _) hb8);clear ho8 hb8)
              | (refine Kd.R_append_rows_step (Kd.int .u32) (w0:=w8) w8.heap.size (by rfl) (.const (.slice none 0 0)) (.tmp 90) 48 83 (.int .u32 0) 4 rfl Try.underlying48 info_u32 rfl (by decide) (by omega) (.slice none 0 0) [] lr (some ⟨gu,0,none⟩) (blen V) c4 (fun _ => True) (fun _ => False) (by rfl) (by rfl) (Kd.R_nil _ _ _ _ _) (by have:=(Kd.R_reads' (Kd.R_below Z1.out HB8.out)).2.2;rw [HN.out.1] at this;exact this) (fun _ _ h => h) (fun _ h => h.elim) (fun _ _ => trivial) (Below.refl _ _) (Nat.le_refl _) (by simp;omega) ?_;intro v9 w9 ho9 hb9 hg9 hat9;rw [List.nil_append] at ho9;have HO9:=Aside0.mk (Kd.R_V (base':=w9.heap.size) ho9);have HB9:=Aside0.mk hb9;clear ho9 hb9 hg9 hat9;obtain ⟨A9,c9,e9⟩:=Kd.V_slice HO9.out;subst e9)
              | (refine goes_ Try.func85 (by kernel_rfl) rfl #[.slice A9 lr.length c9] (by rfl) rfl rfl (by simp only [List.map_toArray,List.map_cons,List.map_nil];rfl) ?_;with_reducible refine (sconceref03_trim.calls kB (fun _ => True) _ _ lr _ _ HO9.out SB.out).mono ?_;rintro e w10 ⟨v10,rfl,ho10,hb10⟩;refine ⟨_,rfl,?_⟩;have HO10:=Aside0.mk ho10;have HB10:=Aside0.mk hb10;clear ho10 hb10;obtain ⟨A10,c10,e9⟩:=Kd.V_slice HO10.out;subst e9)
              | (refine goes_ Try.func68 (by kernel_rfl) rfl #[.slice A10 (big Rm).length c10,.int .i64 (s:Int)] (by rfl) rfl rfl (by simp only [List.map_toArray,List.map_cons,List.map_nil];rfl) ?_;with_reducible refine (sconceref03_Shr.calls kC _ _ (big Rm) (s:Int) _ _ (Kd.V_reads' HO10.out).2.2 (Kd.V_reads' HO10.out).2.1 SC.out).mono ?_;rintro e w11 ⟨v11,rfl,ho11,hb11⟩;refine ⟨_,rfl,?_⟩;have HO11:=Aside0.mk ho11;have HB11:=Aside0.mk hb11;clear ho11 hb11))
            go_wp2
            go_ret2
            exact ⟨_,_,rfl,Kd.V_mono (Kd.V_below HO8.out (below_then HB9.out HB9.out.size (below_then HB10.out HB10.out.size HB11.out))) (fun k hk => .inr hk),Kd.V_mono HO11.out (fun k hk => .inr (Nat.le_trans (below_then ZB.out ZB.out.size (below_then HB8.out HB8.out.size (below_then HB9.out HB9.out.size HB10.out))).size hk)),below_then ZB.out ZB.out.size (below_then HB8.out HB8.out.size (below_then HB9.out HB9.out.size (below_then HB10.out HB10.out.size HB11.out)))⟩
          · obtain ⟨k9,rfl⟩:∃ k9,gk = k9 + 1:=⟨gk - 1,by omega⟩
            obtain rfl:j = (k9:Int):=by omega
            have hP:=dm_piece (U:=U) (V:=V) (La:=La) (n:=blen V) (j:=k9) HVn.out (by omega) (by omega)
            have hG:=ref_guess gu La c4 k9 (blen V) (c4 - k9) 0 (fun k => k = gu) _ A5 c5 V wr HI.out.uR (by omega) (by omega) (by omega) (HI.out.vC HO4.out) hcv (dgH_dgs _ _) (by omega) rfl (by rw [hP.1];exact hP.2)
            rw [hP.1] at hG
            obtain ⟨d,hd⟩:∃ d:Int,d = (((U % (V * 4294967296 ^ (k9 + 1)) / 4294967296 ^ k9) / V:Nat):Int):=⟨_,rfl⟩
            rw [← hd] at hG
            have hGu:=fun w7 => DmI.guessed (w7:=w7) (n:=blen V) (d:=d) (base:=0) HI.out f5 f1 f3 f2 f4 hqL HVn.out (by omega) (by omega) hd
            obtain ⟨i0,hi0,hi1⟩:=info_parts info_u32
            have hcp:=cut_piece (P:=Try.prog) 48 83 Try.underlying48 hi0 hi1.2.1 gu La c4 k9 (blen V + 1) (by omega) (by omega) f6
            obtain ⟨z1,hz1⟩:∃ z1:Nat,z1 = k9 + blen V:=⟨_,rfl⟩
            obtain ⟨z2,hz2⟩:∃ z2:Nat,z2 = k9 + (blen V + 1):=⟨_,rfl⟩
            have p1:IntKind.i64.wrap ((k9:Int) + ((big V).length:Int)) = (z1:Int):=by rw [hbV,i64_w,w64 (by omega) (by omega)];omega
            have p2:IntKind.i64.wrap ((z1:Int) + 1) = (z2:Int):=by rw [i64_w,w64 (by omega) (by omega)];omega
            rw [← hz2] at hcp
            clear hz1 hz2
            have hcv2:=hcv
            rw [hbV] at hcv2
            have hkq:(k9:Int) < (Lq:Int):=by omega
            have hk0:(0:Int)≤(k9:Int):=by omega
            have hkb:(k9:Int) < 100001:=by omega
            have hG':=Aside0.mk hG
            have hGu':=Aside0.mk hGu
            have HK:=Aside0.mk hjq
            clear hG hGu hP hd hi0 hi1 f1 f2 f3 f4 f5 f7 f8 f9 f10 hjq hbV hcv2 hcv
            go_wp2_with (go_at_call 139;(with_reducible refine (hG'.out).mono ?_);rintro e w7 ⟨rfl,hr7,hg7⟩;obtain ⟨⟨x0,hx0⟩,hf0,hI2⟩:=hGu'.out _ hr7 hg7;have HI2:=Aside0.mk hI2;clear hI2 hr7 hg7)
            go_roundg k9
            case measure => omega
            case rel => exact ⟨_,rfl,by omega,by omega,HI2⟩
end Go.Proofs.Ytonpekldcnankaa.X
end
section
namespace Go.Proofs.Ytonpekldcnankaa.X
open Go.RowKit Go.Proofs.YtonpekldcnankaaW.PrintWords Go.Proofs.YtonpekldcnankaaW.PrintLast Go.Proofs.YtonpekldcnankaaW.PrintMore
attribute [local go_sem] max2_int min2_int max_two min_two max_three min_three max_four min_four
set_option linter.unusedVariables false
set_option linter.unusedSimpArgs false
def sconceref03_DivMod.f (a0 a1:List Int):Option (List Int × List Int) :=
 if a0 = Ma.big (nH a0)∧a1 = Ma.big (nH a1)∧nH a1≠0∧a0.length≤100000∧a1.length≤100000 then some (Ma.big (nH a0 / nH a1),Ma.big (nH a0 % nH a1)) else none
theorem sp_ref_DivMod {a m:Nat} (ha:Ma.blen a≤100000) (hm:Ma.blen m≤100000) (h0:m≠0):sconceref03_DivMod.f (Ma.big a) (Ma.big m) = some (Ma.big (a / m),Ma.big (a % m)):=by
 unfold sconceref03_DivMod.f nH
 rw [Ma.num_big,Ma.num_big,if_pos ⟨rfl,rfl,h0,by rw [Ma.big_length];exact ha,by rw [Ma.big_length];exact hm⟩]
theorem sconceref03_DivMod.calls (P0_:Nat→Prop) (A0:Option Addr) (c0:Nat) (l0:List Int) (A1:Option Addr) (c1:Nat) (l1:List Int) (r1 r2:List Int) (w:World) (hs0:Kd.V (Kd.int .u32) 83 w w.heap.size (fun k_ => P0_ k_) (.slice A0 l0.length c0) l0) (hr1:Kd.C (Kd.int .u32) w A1 l1.length l1) (hc1:l1.length≤c1) (h:sconceref03_DivMod.f l0 l1 = some (r1,r2)) :
  Calls Try.prog 100 #[.slice A0 l0.length c0,.slice A1 l1.length c1] w fun e w' => ∃ v0_ v1_:Value,e = .returned (.tuple #[v0_,v1_])∧Kd.V (Kd.int .u32) 83 w' w.heap.size (fun k_ => (P0_ k_∨w.heap.size≤k_)) v0_ r1∧Kd.V (Kd.int .u32) 83 w' w.heap.size (fun k_ => (P0_ k_∨w.heap.size≤k_)) v1_ r2∧Below w.heap.size w w':=by
 unfold sconceref03_DivMod.f at h
 split at h
 ·
  rename_i hc
  obtain ⟨e0,e1,hm0,hb0,hb1⟩:=hc
  generalize nH l0 = a at *
  generalize nH l1 = m at *
  subst e0
  subst e1
  rw [Option.some.injEq,Prod.mk.injEq] at h
  obtain ⟨rfl,rfl⟩:=h
  rw [Ma.big_length] at hb0 hb1
  rcases Nat.lt_or_ge a m with hlt | hge
  ·
   exact ref_DivMod_less P0_ A0 c0 A1 c1 a m w hs0 hr1 hc1 hb0 hb1 hlt
  ·
   have hp:=Ma.blen_pos hm0
   rcases Nat.lt_or_ge 1 (Ma.blen m) with h1 | h1
   ·
    exact ref_DivMod_big P0_ A0 c0 A1 c1 a m w hs0 hr1 hc1 hb0 hb1 h1 hge
   ·
    exact ref_DivMod_one P0_ A0 c0 A1 c1 a m w hs0 hr1 hc1 hb0 (by omega) hge
 ·
  exact absurd h (by simp)
end Go.Proofs.Ytonpekldcnankaa.X
end
