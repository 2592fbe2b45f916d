/- Texts of the walk and of the plain laws, laid together by a program: Dv, Dp, Dg. -/
import Derived.Test.YtonpekldcnankaaZC15
set_option maxHeartbeats 8000000
set_option maxRecDepth 100000
section
namespace Go.Proofs.Ytonpekldcnankaa.X
open Go.RowKit Go.Proofs.YtonpekldcnankaaW.PrintWords Go.Proofs.YtonpekldcnankaaW.PrintLast Go.Proofs.YtonpekldcnankaaW.PrintMore Go.Proofs.Ytonpekldcnankaa.Ma
set_option linter.unusedVariables false
set_option linter.unusedSimpArgs false
abbrev dgH (l:List Int):Prop:=dg ((4294967296:Nat):Int) l
abbrev nH (l:List Int):Nat:=num 4294967296 l
theorem info_u32:(Try.prog.info? 83).map (fun i => (i.zero,i.size,i.bytes)) = some (some (.int .u32 0),1,4):=by kernel_rfl
theorem ref_take_no (A:Option Addr) (c:Nat) (lu:List Int) (AV:Option Addr) (cv:Nat) (V q:Nat) (w:World)
    (hu:Kd.C (Kd.int .u32) w A lu.length lu) (hcu:lu.length≤c) (hv:Kd.C (Kd.int .u32) w AV (big V).length (big V)) (hcv:(big V).length≤cv)
    (hd:dgH lu) (hn:lu.length≤1000000) (hV:blen V≤1000000) (hq:q < 18446744073709551616) (h:nH lu < V * q) :
    Calls Try.prog 170 #[.slice A lu.length c,.slice AV (big V).length cv,.int .u64 (q:Int)] w fun e w' => e = .returned (.bool false)∧Below w.heap.size w w':=by
  have hbq:blen q≤2:=blen_le (by omega)
  obtain ⟨k1,hk1⟩:=sp_Small hq
  obtain ⟨k2,hk2⟩:=sp_ref_Mul (a:=V) (b:=q) (by omega) (by omega)
  obtain ⟨k3,hk3⟩:=sp_trim hd (by omega)
  have hbu:blen (nH lu)≤1000000:=Nat.le_trans (blen_le (num_lt hd)) hn
  obtain ⟨k4,hk4⟩:=sp_Cmp (x:=nH lu) (y:=V * q) (by omega)
  have S1:=Aside0.mk (hk1 k1 (Nat.le_refl _))
  have S2:=Aside0.mk (hk2 k2 (Nat.le_refl _))
  have S3:=Aside0.mk (hk3 k3 (Nat.le_refl _))
  have S4:=Aside0.mk (hk4 k4 (Nat.le_refl _))
  clear hk1 hk2 hk3 hk4
  obtain ⟨cm,hcm⟩:∃ cm,cmpI (nH lu) (V * q) = cm:=⟨_,rfl⟩
  have dcm:decide (cm < 0) = true:=by rw [← hcm,decide_eq_true_eq];unfold cmpI;rw [if_pos h];omega
  have dcm':=of_decide_eq_true dcm
  rw [hcm] at S4
  clear hcm h
  have HU:=Aside0.mk hu
  have HV:=Aside0.mk hv
  clear hu hv
  go_enter Try.func170,Try.ntmps170
  go_wp2_with (first
    | (go_at_call 44;refine (sconceref03_Small.calls k1 _ _ _ S1.out).mono ?_;rintro e w1 ⟨v1,rfl,ho1,hb1⟩;obtain ⟨A1,c1,e1⟩:=Kd.V_slice ho1;subst e1;have HO1:=Aside0.mk (Kd.V_reads' ho1).2.2;have HC1:=Aside0.mk (Kd.V_reads' ho1).2.1;have HB1:=Aside0.mk hb1;clear ho1 hb1)
    | (go_at_call 43;refine (sconceref03_Mul.calls k2 _ _ (big V) _ _ (big q) _ _ (Kd.C_below HV.out HB1.out) hcv HO1.out HC1.out S2.out).mono ?_;rintro e w2 ⟨v2,rfl,ho2,hb2⟩;obtain ⟨A2,c2,e2⟩:=Kd.V_slice ho2;subst e2;have HO2:=Aside0.mk (Kd.V_reads' ho2).2.2;have HC2:=Aside0.mk (Kd.V_reads' ho2).2.1;have HB2:=Aside0.mk (below_then HB1.out HB1.out.size hb2);clear ho2 hb2)
    | ((with_reducible refine gate_builtin (b:=.append) (xs:=#[.const (.slice none 0 0),.tmp 14]) rfl ?_);at_builtin;refine Kd.R_append_rows (Kd.int .u32) (w0:=w2) w2.heap.size rfl (.const (.slice none 0 0)) (.tmp 14) 48 83 (.int .u32 0) 4 rfl Try.underlying48 info_u32 rfl (by decide) (by omega) (.slice none 0 0) [] lu A lu.length c (fun _ => True) (fun _ => False) rfl rfl (Kd.R_nil _ _ _ _ _) (Kd.C_below HU.out HB2.out) (fun _ _ h => h) (fun _ h => h.elim) (fun _ _ => trivial) (Below.refl _ _) (Nat.le_refl _) (by simp;omega) ?_;intro v3 w3 ho3 hb3 hg3 hat3;rw [List.nil_append] at ho3;have HO3:=Aside0.mk (Kd.R_V (base':=w3.heap.size) ho3);have HB3:=Aside0.mk hb3;clear ho3 hb3 hg3 hat3;obtain ⟨A3,c3,e3⟩:=Kd.V_slice HO3.out;subst e3)
    | (go_at_call 85;refine (sconceref03_trim.calls k3 (fun _ => True) _ _ lu _ _ HO3.out S3.out).mono ?_;rintro e w4 ⟨v4,rfl,ho4,hb4⟩;obtain ⟨A4,c4,e4⟩:=Kd.V_slice ho4;subst e4;have HO4:=Aside0.mk (Kd.V_reads' ho4).2.2;have HC4:=Aside0.mk (Kd.V_reads' ho4).2.1;have HB4:=Aside0.mk (below_then HB3.out HB3.out.size hb4);clear ho4 hb4)
    | (go_at_call 60;refine (sconceref03_Cmp.calls k4 _ _ (big (nH lu)) _ _ (big (V * q)) _ _ HO4.out HC4.out (Kd.C_below HO2.out HB4.out) HC2.out S4.out).mono ?_;rintro e w5 ⟨rfl,⟨nd,rfl⟩⟩))
  go_ret
  exact ⟨rfl,pw_below_drewN (below_then HB2.out HB2.out.size HB4.out) _⟩
def spl (xs:List Int) (j i D:Nat):List Int:=xs.take j ++ (dgs 4294967296 i D ++ xs.drop (j + i))
theorem spl_zero (xs:List Int) (j D:Nat):spl xs j 0 D = xs:=by simp [spl,dgs]
theorem spl_set {xs:List Int} {j i:Nat} (D:Nat) (h:j + i < xs.length) (y:Int) (hy:y = ((D / 4294967296 ^ i % 4294967296:Nat):Int)):(spl xs j i D).set (j + i) y = spl xs j (i + 1) D:=by
  unfold spl
  rw [List.set_append_right _ _ (by rw [List.length_take];omega),List.length_take,show j + i - min j xs.length = i by omega,List.set_append_right _ _ (by rw [dgs_length];exact Nat.le_refl _),dgs_length,Nat.sub_self,List.drop_eq_getElem_cons h,List.set_cons_zero,dgs_snoc,hy,List.append_assoc]
  rfl
theorem ref_take_yes (g L cap j n c base:Nat) (ok:Nat→Prop) (xs:List Int) (AV:Option Addr) (cv:Nat) (V q:Nat) (w:World)
    (hR:Kd.R (Kd.int .u32) 83 w base ok (.slice (some ⟨g,0,none⟩) L cap) xs) (hjn:j + n≤L) (hn0:0 < n) (hcu:n≤c) (hv:Kd.C (Kd.int .u32) w AV (big V).length (big V)) (hcv:(big V).length≤cv)
    (hd:dgH xs) (hn:n≤1000000) (hV:blen V≤1000000) (hq:q < 18446744073709551616) (h:V * q≤nH ((xs.drop j).take n)) :
    Calls Try.prog 170 #[.slice (some ⟨g,j,none⟩) n c,.slice AV (big V).length cv,.int .u64 (q:Int)] w fun e w' => e = .returned (.bool true)∧Kd.R (Kd.int .u32) 83 w' base ok (.slice (some ⟨g,0,none⟩) L cap) (spl xs j n (nH ((xs.drop j).take n) - V * q))∧w.grownBy w' (some g):=by
  have hL:L = xs.length:=(Kd.R_reads' hR).1
  have hg:=Kd.R_lt hR g rfl
  have hC:=C_piece hR j n hjn (by omega)
  obtain ⟨lu,hlu⟩:∃ lu,(xs.drop j).take n = lu:=⟨_,rfl⟩
  have hll:lu.length = n:=by rw [← hlu,List.length_take,List.length_drop];omega
  have hdu:dgH lu:=fun x hx => hd x (List.mem_of_mem_drop (List.mem_of_mem_take (hlu ▸ hx)))
  rw [hlu] at h hC ⊢
  subst hll
  have hbq:blen q≤2:=blen_le (by omega)
  have hbu:blen (nH lu)≤1000000:=Nat.le_trans (blen_le (num_lt hdu)) hn
  obtain ⟨k1,hk1⟩:=sp_Small hq
  obtain ⟨k2,hk2⟩:=sp_ref_Mul (a:=V) (b:=q) (by omega) (by omega)
  obtain ⟨k3,hk3⟩:=sp_trim hdu (by omega)
  obtain ⟨k4,hk4⟩:=sp_Cmp (x:=nH lu) (y:=V * q) (by omega)
  obtain ⟨k5,hk5⟩:=sp_Sub (x:=nH lu) (y:=V * q) (by omega) h
  have S1:=Aside0.mk (hk1 k1 (Nat.le_refl _))
  have S2:=Aside0.mk (hk2 k2 (Nat.le_refl _))
  have S3:=Aside0.mk (hk3 k3 (Nat.le_refl _))
  have S4:=Aside0.mk (hk4 k4 (Nat.le_refl _))
  have S5:=Aside0.mk (hk5 k5 (Nat.le_refl _))
  clear hk1 hk2 hk3 hk4 hk5
  obtain ⟨cm,hcm⟩:∃ cm,cmpI (nH lu) (V * q) = cm:=⟨_,rfl⟩
  have dcm:decide (cm < 0) = false:=by rw [← hcm,decide_eq_false_iff_not];unfold cmpI;rw [if_neg (by omega)];split <;> omega
  have dcm':=of_decide_eq_false dcm
  rw [hcm] at S4
  obtain ⟨D,hD⟩:∃ D,nH lu - V * q = D:=⟨_,rfl⟩
  rw [hD] at S5 ⊢
  clear hcm h hlu hbu hbq hdu hD
  have HU:=Aside0.mk hC
  have HV:=Aside0.mk hv
  have HR:=Aside0.mk hR
  clear hC hv hR
  go_enter Try.func170,Try.ntmps170
  go_wp2_with (first
    | (go_at_call 44;refine (sconceref03_Small.calls k1 _ _ _ S1.out).mono ?_;rintro e w1 ⟨v1,rfl,ho1,hb1⟩;obtain ⟨A1,c1,e1⟩:=Kd.V_slice ho1;subst e1;have HO1:=Aside0.mk (Kd.V_reads' ho1).2.2;have HC1:=Aside0.mk (Kd.V_reads' ho1).2.1;have HB1:=Aside0.mk hb1;clear ho1 hb1)
    | (go_at_call 43;refine (sconceref03_Mul.calls k2 _ _ (big V) _ _ (big q) _ _ (Kd.C_below HV.out HB1.out) hcv HO1.out HC1.out S2.out).mono ?_;rintro e w2 ⟨v2,rfl,ho2,hb2⟩;obtain ⟨A2,c2,e2⟩:=Kd.V_slice ho2;subst e2;have HO2:=Aside0.mk (Kd.V_reads' ho2).2.2;have HC2:=Aside0.mk (Kd.V_reads' ho2).2.1;have HB2:=Aside0.mk (below_then HB1.out HB1.out.size hb2);clear ho2 hb2)
    | ((with_reducible refine gate_builtin (b:=.append) (xs:=#[.const (.slice none 0 0),.tmp 14]) rfl ?_);at_builtin;refine Kd.R_append_rows (Kd.int .u32) (w0:=w2) w2.heap.size rfl (.const (.slice none 0 0)) (.tmp 14) 48 83 (.int .u32 0) 4 rfl Try.underlying48 info_u32 rfl (by decide) (by omega) (.slice none 0 0) [] lu (some ⟨g,j,none⟩) lu.length c (fun _ => True) (fun _ => False) rfl rfl (Kd.R_nil _ _ _ _ _) (Kd.C_below HU.out HB2.out) (fun _ _ h => h) (fun _ h => h.elim) (fun _ _ => trivial) (Below.refl _ _) (Nat.le_refl _) (by simp;omega) ?_;intro v3 w3 ho3 hb3 hg3 hat3;rw [List.nil_append] at ho3;have HO3:=Aside0.mk (Kd.R_V (base':=w3.heap.size) ho3);have HB3:=Aside0.mk hb3;clear ho3 hb3 hg3 hat3;obtain ⟨A3,c3,e3⟩:=Kd.V_slice HO3.out;subst e3)
    | ((with_reducible refine gate_callee (f:=85) rfl ?_);refine goesL_ (some 16) rfl rfl Try.func85 (by kernel_rfl) rfl #[.slice A3 lu.length c3] rfl (by (try simp only [List.map_toArray,List.map_cons,List.map_nil]);first | done | rfl) ?_;refine (sconceref03_trim.calls k3 (fun _ => True) _ _ lu _ _ HO3.out S3.out).mono ?_;rintro e w4 ⟨v4,rfl,ho4,hb4⟩;refine ⟨_,rfl,?_⟩;obtain ⟨A4,c4,e4⟩:=Kd.V_slice ho4;subst e4;have HO4:=Aside0.mk (Kd.V_reads' ho4).2.2;have HC4:=Aside0.mk (Kd.V_reads' ho4).2.1;have HB4:=Aside0.mk (below_then HB3.out HB3.out.size hb4);clear ho4 hb4)
    | (go_at_call 60;refine (sconceref03_Cmp.calls k4 _ _ (big (nH lu)) _ _ (big (V * q)) _ _ HO4.out HC4.out (Kd.C_below HO2.out HB4.out) HC2.out S4.out).mono ?_;rintro e w5 ⟨rfl,⟨nd,rfl⟩⟩;have HB5:=Aside0.mk (pw_below_drewN (below_then HB2.out HB2.out.size HB4.out) nd);have HO5:=Aside0.mk (Kd.C_below (w1:=w4.drewN nd) HO2.out (pw_below_drewN HB4.out nd)))
    | ((with_reducible refine gate_builtin (b:=.append) (xs:=#[.const (.slice none 0 0),.tmp 20]) rfl ?_);at_builtin;refine Kd.R_append_rows (Kd.int .u32) (w0:=w4.drewN nd) (w4.drewN nd).heap.size rfl (.const (.slice none 0 0)) (.tmp 20) 48 83 (.int .u32 0) 4 rfl Try.underlying48 info_u32 rfl (by decide) (by omega) (.slice none 0 0) [] lu (some ⟨g,j,none⟩) lu.length c (fun _ => True) (fun _ => False) rfl rfl (Kd.R_nil _ _ _ _ _) (Kd.C_below HU.out HB5.out) (fun _ _ h => h) (fun _ h => h.elim) (fun _ _ => trivial) (Below.refl _ _) (Nat.le_refl _) (by simp;omega) ?_;intro v6 w6 ho6 hb6 hg6 hat6;rw [List.nil_append] at ho6;have HO6:=Aside0.mk (Kd.R_V (base':=w6.heap.size) ho6);have HB6:=Aside0.mk hb6;clear ho6 hb6 hg6 hat6;obtain ⟨A6,c6,e6⟩:=Kd.V_slice HO6.out;subst e6)
    | ((with_reducible refine gate_callee (f:=85) rfl ?_);refine goesL_ (some 22) rfl rfl Try.func85 (by kernel_rfl) rfl #[.slice A6 lu.length c6] rfl (by (try simp only [List.map_toArray,List.map_cons,List.map_nil]);first | done | rfl) ?_;refine (sconceref03_trim.calls k3 (fun _ => True) _ _ lu _ _ HO6.out S3.out).mono ?_;rintro e w7 ⟨v7,rfl,ho7,hb7⟩;refine ⟨_,rfl,?_⟩;obtain ⟨A7,c7,e7⟩:=Kd.V_slice ho7;subst e7;have HO7:=Aside0.mk (Kd.V_reads' ho7).2.2;have HC7:=Aside0.mk (Kd.V_reads' ho7).2.1;have HB7:=Aside0.mk (below_then HB6.out HB6.out.size hb7);clear ho7 hb7)
    | (go_at_call 58;refine (sconceref03_Sub.calls k5 _ _ (big (nH lu)) _ _ (big (V * q)) _ _ HO7.out HC7.out (Kd.C_below HO5.out HB7.out) HC2.out S5.out).mono ?_;rintro e w8 ⟨v8,rfl,ho8,hb8⟩;have HB8:=Aside0.mk (below_then HB5.out HB5.out.size (below_then HB7.out HB7.out.size hb8));have HD8:=Aside0.mk (Kd.V_mono (ok':=fun k_ => w.heap.size≤k_) ho8 (fun k_ hk => Nat.le_trans (below_then HB5.out HB5.out.size HB7.out).size hk));clear ho8 hb8;obtain ⟨A8,c8,e8⟩:=Kd.V_slice HD8.out;subst e8))
  have HR8:=Aside0.mk (Kd.R_below HR.out HB8.out)
  have HG8:=Aside0.mk (grown_of_below HB8.out (some g))
  clear HR HB8 HB7 HB6 HB5 HB4 HB3 HB2 HB1 HO1 HO2 HO3 HO4 HO5 HO6 HO7
  have HD0:=Aside0.mk (Kd.V_lower HD8.out (Nat.zero_le _))
  clear HD8 S1 S2 S3 S4 S5 HU HV
  go_loopg [27] (lu.length + 1) (fun qq v27 wr => ∃ i:Nat,i + qq = lu.length + 1∧i≤lu.length∧v27 = .int .i64 i∧Aside0 (Kd.R (Kd.int .u32) 83 wr base ok (.slice (some ⟨g,0,none⟩) L cap) (spl xs j i D))∧Aside0 (Kd.V (Kd.int .u32) 83 wr 0 (fun k_ => w.heap.size≤k_) (.slice A8 (big D).length c8) (big D))∧Aside0 (w.grownBy wr (some g)))
  case atStart => exact ⟨0,by omega,by omega,rfl,⟨by rw [spl_zero];exact HR8.out⟩,HD0,HG8⟩
  case round =>
    clear HR8 HG8 HD0
    obtain ⟨i,hiq,hin,rfl,HR,HD,HG⟩:=hrel
    cases gk with
    | zero => omega
    | succ k1 =>
      have HE:=Aside0.mk hiq
      clear hiq
      by_cases hlt:i < lu.length
      · have d1:decide ((i:Int) < (lu.length:Int)) = true:=decide_eq_true (by omega)
        have d2:decide (i < lu.length) = true:=decide_eq_true hlt
        have S6:=Aside0.mk (sp_digit_big D i)
        obtain ⟨y,hy⟩:∃ y:Int,y = ((D / 4294967296 ^ i % 4294967296:Nat):Int):=⟨_,rfl⟩
        rw [← hy] at S6
        have HY:=Aside0.mk (spl_set (xs:=xs) (j:=j) (i:=i) D (by omega) y hy)
        clear hy
        have p1:(0:Int)≤((j + i:Nat):Int):=by omega
        have q1:((j + i:Nat):Int) < (L:Int):=by omega
        go_wp2_with (first
          | ((with_reducible refine gate_callee (f:=86) rfl ?_);refine goesL_ (some 34) rfl rfl Try.func86 (by kernel_rfl) rfl #[.slice A8 (big D).length c8,.int .i64 (i:Int)] rfl (by (try simp only [List.map_toArray,List.map_cons,List.map_nil]);first | done | rfl) ?_;(with_reducible refine (sconceref03_digit.calls _ _ (big D) (i:Int) y _ ?s1 ?s2 S6.out).mono ?_);(case s1 => exact (Kd.V_reads' HD.out).2.2);(case s2 => exact (Kd.V_reads' HD.out).2.1);rintro e w' ⟨rfl,⟨nd,rfl⟩⟩;refine ⟨_,rfl,?_⟩;have HR2:=Aside0.mk (Kd.R_drewN HR.out nd);have HD2:=Aside0.mk (Kd.V_drewN HD.out nd);have HG2:=Aside0.mk (grown_drewN HG.out nd);obtain ⟨hx,hf⟩:=Kd.R_celln 0 HR2.out ((j + i:Nat):Int) p1 q1;rw [Int.toNat_natCast] at hx hf;clear HR HD HG))
        obtain ⟨hP,hQ⟩:=Kd.R_putg HR2.out ((j + i:Nat):Int) y
        rw [Int.toNat_natCast] at hP hQ
        rw [HY.out] at hP
        have HP:=Aside0.mk hP
        have HQ:=Aside0.mk (grown_then HG2.out hQ)
        have HV2:=Aside0.mk (Kd.V_grown HD2.out hQ (fun k hk e => by have:=Option.some.inj e;omega))
        clear hP hQ HR2 HD2 HG2 hx hf
        go_roundg k1
        case measure => omega
        case rel => exact ⟨i + 1,by have:=HE.out;omega,by omega,by go_num,HP,HV2,HQ⟩
      · have hin':i = lu.length:=by omega
        subst hin'
        have d1:decide ((lu.length:Int) < (lu.length:Int)) = false:=decide_eq_false (by omega)
        have d2:decide (lu.length < lu.length) = false:=decide_eq_false hlt
        go_wp2
        go_ret
        exact ⟨rfl,HR.out,HG.out⟩
end Go.Proofs.Ytonpekldcnankaa.X
end
section
namespace Go.Proofs.Ytonpekldcnankaa.X
open Go.RowKit Go.Proofs.YtonpekldcnankaaW.PrintWords Go.Proofs.YtonpekldcnankaaW.PrintLast Go.Proofs.YtonpekldcnankaaW.PrintMore Go.Proofs.Ytonpekldcnankaa.Ma
set_option linter.unusedVariables false
theorem top_digit {m:Nat} (h:m≠0):0 < m / 4294967296 ^ (blen m - 1)∧m / 4294967296 ^ (blen m - 1) < 4294967296:=by
  refine ⟨Nat.div_pos (blen_ge h) (Nat.pow_pos (by decide)),(Nat.div_lt_iff_lt_mul (Nat.pow_pos (by decide))).2 ?_⟩
  have:=blen_lt m
  rwa [← Nat.pow_succ',Nat.succ_eq_add_one,show blen m - 1 + 1 = blen m by have:=blen_pos h;omega]
theorem blen_shl {m s:Nat} (h:m≠0) (hs:m / 4294967296 ^ (blen m - 1) * 2 ^ s < 4294967296):blen (m * 2 ^ s) = blen m:=by
  have h1:=blen_pos h
  have hle:blen m≤blen (m * 2 ^ s):=blen_mono (Nat.le_mul_of_pos_right _ (Nat.pow_pos (by decide)))
  refine Nat.le_antisymm (blen_le ?_) hle
  have htp:=(top_digit h).1
  have hq:=Nat.div_add_mod m (4294967296 ^ (blen m - 1))
  have hr:=Nat.mod_lt m (show 0 < 4294967296 ^ (blen m - 1) from Nat.pow_pos (by decide))
  have e:4294967296 ^ blen m = 4294967296 ^ (blen m - 1) * 4294967296:=by rw [← Nat.pow_succ];congr 1;omega
  generalize m / 4294967296 ^ (blen m - 1) = t at *
  generalize 4294967296 ^ (blen m - 1) = P at *
  rw [e]
  have h2:m < P * (t + 1):=by rw [Nat.mul_add];omega
  have hsp:0 < 2 ^ s:=Nat.pow_pos (by decide)
  have h3:m * 2 ^ s < P * (t + 1) * 2 ^ s:=Nat.mul_lt_mul_of_pos_right h2 hsp
  have h4:(t + 1) * 2 ^ s≤4294967296:=by
    have hd:s≤32:=by
      rcases Nat.lt_or_ge 32 s with h5 | h5
      · exfalso
        have:=Nat.pow_le_pow_right (show 0 < 2 by decide) (show 32≤s by omega)
        have:=Nat.le_mul_of_pos_left (2 ^ s) htp
        omega
      · exact h5
    have e2:4294967296 = 2 ^ (32 - s) * 2 ^ s:=by rw [← Nat.pow_add,show 32 - s + s = 32 by omega]
    have h5:t < 2 ^ (32 - s):=by
      rw [e2] at hs
      exact Nat.lt_of_mul_lt_mul_right hs
    calc (t + 1) * 2 ^ s≤2 ^ (32 - s) * 2 ^ s:=Nat.mul_le_mul_right _ h5
      _ = 4294967296:=e2.symm
  calc m * 2 ^ s < P * (t + 1) * 2 ^ s:=h3
    _ = P * ((t + 1) * 2 ^ s):=Nat.mul_assoc ..
    _≤P * 4294967296:=Nat.mul_le_mul_left _ h4
theorem dm_digit (U V j:Nat):U % (V * 4294967296 ^ (j + 1)) / 4294967296 ^ j / V = U / V / 4294967296 ^ j % 4294967296:=by
  rw [Nat.div_div_eq_div_mul,Nat.div_div_eq_div_mul,Nat.pow_succ,← Nat.mul_assoc,Nat.mul_comm (4294967296 ^ j) V,Nat.mod_mul_right_div_self]
theorem dm_rest (U V j:Nat):U % (V * 4294967296 ^ (j + 1)) % 4294967296 ^ j + 4294967296 ^ j * (U % (V * 4294967296 ^ (j + 1)) / 4294967296 ^ j % V) = U % (V * 4294967296 ^ j):=by
  rw [← Nat.mod_mul,Nat.mul_comm (4294967296 ^ j) V,Nat.mod_mod_of_dvd]
  exact ⟨4294967296,by rw [Nat.pow_succ,Nat.mul_assoc]⟩
theorem dgH_dgs (n x:Nat):dgH (dgs 4294967296 n x):=dgs_dg (by decide) _ _
theorem piece_dgs (L X j n:Nat) (h:j + n≤L):((dgs 4294967296 L X).drop j).take n = dgs 4294967296 n (X / 4294967296 ^ j):=by
  obtain ⟨d,rfl⟩:∃ d,L = j + (n + d):=⟨L - j - n,by omega⟩
  rw [dgs_append,List.drop_left' (dgs_length _ _ _),dgs_append,List.take_left' (dgs_length _ _ _)]
theorem spl_dgs (L X j n D:Nat) (h:j + n≤L) (hX:X / 4294967296 ^ (j + n) = 0) (hD:D < 4294967296 ^ n):spl (dgs 4294967296 L X) j n D = dgs 4294967296 L (X % 4294967296 ^ j + 4294967296 ^ j * D):=by
  obtain ⟨d,rfl⟩:∃ d,L = j + (n + d):=⟨L - j - n,by omega⟩
  have hl:=Nat.mod_lt X (show 0 < 4294967296 ^ j from Nat.pow_pos (by decide))
  have hp:0 < 4294967296 ^ j:=Nat.pow_pos (by decide)
  have e1:(X % 4294967296 ^ j + 4294967296 ^ j * D) / 4294967296 ^ j = D:=by
    rw [Nat.add_mul_div_left _ _ hp,Nat.div_eq_of_lt hl,Nat.zero_add]
  have e2:dgs 4294967296 j (X % 4294967296 ^ j + 4294967296 ^ j * D) = dgs 4294967296 j X:=by
    rw [← dgs_mod j (X % 4294967296 ^ j + 4294967296 ^ j * D),Nat.add_mul_mod_self_left,Nat.mod_mod,dgs_mod]
  have e3:∀ Y Z,(dgs 4294967296 j X ++ (dgs 4294967296 n Y ++ dgs 4294967296 d Z)).drop (j + n) = dgs 4294967296 d Z:=fun Y Z => by
    rw [← List.append_assoc,List.drop_left' (by rw [List.length_append,dgs_length,dgs_length])]
  unfold spl
  rw [dgs_append j (n + d) X,dgs_append n d,e3,List.take_left' (dgs_length _ _ _),Nat.div_div_eq_div_mul,← Nat.pow_add,hX,dgs_append j (n + d),e1,e2,dgs_append n d,Nat.div_eq_of_lt hD]
theorem dm_facts {a m U V:Nat} (ha:blen a≤100000) (hm:2≤blen m) (hma:blen m≤blen a) (hU0:blen U≤blen a + 1) (hU1:blen a≤blen U) (hV:blen V = blen m) :
    ∃ La Lq:Nat,IntKind.i64.wrap (((big a).length:Int) + 1) = (La:Int)∧(La < (big U).length) = False∧IntKind.i64.wrap ((La:Int) - ((big V).length:Int)) = (Lq:Int)∧IntKind.i64.wrap ((Lq:Int) - 1) = (Lq:Int) - 1 ∧
      (La = blen a + 1∧Lq = La - blen m)∧La≤blen U + 1∧La≤100001∧Lq≤La∧0 < Lq:=by
  refine ⟨blen a + 1,blen a + 1 - blen m,?_,?_,?_,?_,⟨rfl,rfl⟩,by omega,by omega,by omega,by omega⟩
  · rw [i64_w,big_length,w64 (by omega) (by omega)];omega
  · exact eq_false (by rw [big_length];omega)
  · rw [i64_w,big_length,hV,w64 (by omega) (by omega)];omega
  · rw [i64_w,w64 (by omega) (by omega)]
theorem dm_start {a m s:Nat} (hm0:m≠0) (hma:blen m≤blen a):a * 2 ^ s < m * 2 ^ s * 4294967296 ^ (blen a + 1 - blen m):=by
  have h1:=blen_lt a
  have h2:=blen_ge hm0
  have h3:=blen_pos hm0
  have e:4294967296 ^ blen a = 4294967296 ^ (blen m - 1) * 4294967296 ^ (blen a + 1 - blen m):=by rw [← Nat.pow_add];congr 1;omega
  have h4:a < m * 4294967296 ^ (blen a + 1 - blen m):=Nat.lt_of_lt_of_le (e ▸ h1) (Nat.mul_le_mul_right _ h2)
  calc a * 2 ^ s < m * 4294967296 ^ (blen a + 1 - blen m) * 2 ^ s:=Nat.mul_lt_mul_of_pos_right h4 (Nat.pow_pos (by decide))
    _ = m * 2 ^ s * 4294967296 ^ (blen a + 1 - blen m):=by rw [Nat.mul_assoc,Nat.mul_assoc,Nat.mul_comm (2 ^ s)]
theorem dm_take {l:List Int} {U n:Nat} (hd:dgH l) (hn:n≤l.length) (hu:nH l = U):l.take n = dgs 4294967296 n U :=
  dgs_eq (fun x hx => hd x (List.mem_of_mem_take hx)) (by rw [List.length_take];omega) (by rw [num_take hd,show num 4294967296 l = U from hu,Nat.mod_mod])
theorem dm_qset {L j Q:Nat} (h:j + 1≤L) (d:Int) (hd:d = ((Q / 4294967296 ^ j % 4294967296:Nat):Int)) :
    (List.replicate (j + 1) (0:Int) ++ dgs 4294967296 (L - (j + 1)) (Q / 4294967296 ^ (j + 1))).set j d = List.replicate j 0 ++ dgs 4294967296 (L - j) (Q / 4294967296 ^ j):=by
  rw [List.replicate_succ',List.append_assoc,List.set_append_right _ _ (by simp),List.length_replicate,Nat.sub_self,show L - j = L - (j + 1) + 1 by omega,hd,Nat.pow_succ,← Nat.div_div_eq_div_mul]
  rfl
theorem dm_piece {U V La n j:Nat} (hV:V < 4294967296 ^ n) (hV0:0 < V) (hj:j + (n + 1)≤La) :
    nH (((dgs 4294967296 La (U % (V * 4294967296 ^ (j + 1)))).drop j).take (n + 1)) = U % (V * 4294967296 ^ (j + 1)) / 4294967296 ^ j∧U % (V * 4294967296 ^ (j + 1)) / 4294967296 ^ j < V * 4294967296:=by
  have hp:0 < 4294967296 ^ j:=Nat.pow_pos (by decide)
  have h1:U % (V * 4294967296 ^ (j + 1)) / 4294967296 ^ j < V * 4294967296:=by
    rw [Nat.div_lt_iff_lt_mul hp,Nat.mul_assoc,← Nat.pow_succ']
    exact Nat.mod_lt _ (Nat.mul_pos hV0 (Nat.pow_pos (by decide)))
  refine ⟨?_,h1⟩
  rw [piece_dgs _ _ _ _ hj,nH,num_dgs,Nat.mod_eq_of_lt]
  refine Nat.lt_of_lt_of_le h1 ?_
  rw [Nat.pow_succ]
  exact Nat.mul_le_mul_right _ (Nat.le_of_lt hV)
theorem dm_spl {U V La n j:Nat} (hV:V < 4294967296 ^ n) (hV0:0 < V) (hj:j + (n + 1)≤La) :
    spl (dgs 4294967296 La (U % (V * 4294967296 ^ (j + 1)))) j (n + 1) (U % (V * 4294967296 ^ (j + 1)) / 4294967296 ^ j % V) = dgs 4294967296 La (U % (V * 4294967296 ^ j)):=by
  have hp:0 < 4294967296 ^ j:=Nat.pow_pos (by decide)
  have h1:=(dm_piece (U:=U) hV hV0 hj).2
  have h2:V≤4294967296 ^ (n + 1):=Nat.le_trans (Nat.le_of_lt hV) (Nat.pow_le_pow_right (by decide) (by omega))
  rw [spl_dgs _ _ _ _ _ hj ?_ (Nat.lt_of_lt_of_le (Nat.mod_lt _ hV0) h2),dm_rest]
  rw [show 4294967296 ^ (j + (n + 1)) = 4294967296 ^ j * 4294967296 ^ (n + 1) from Nat.pow_add _ _ _,← Nat.div_div_eq_div_mul]
  refine Nat.div_eq_of_lt (Nat.lt_of_lt_of_le h1 ?_)
  rw [Nat.pow_succ]
  exact Nat.mul_le_mul_right _ (Nat.le_of_lt hV)
theorem dm_nat {a m U V s:Nat} (h:a * 2 ^ s = U∧m * 2 ^ s = V):U / V = a / m∧U % V / 2 ^ s = a % m:=by
  obtain ⟨rfl,rfl⟩:=h
  have hp:0 < 2 ^ s:=Nat.pow_pos (by decide)
  exact ⟨Nat.mul_div_mul_right _ _ hp,by rw [Nat.mul_mod_mul_right,Nat.mul_div_cancel _ hp]⟩
end Go.Proofs.Ytonpekldcnankaa.X
end
section
namespace Go.Proofs.Ytonpekldcnankaa.X
open Go.RowKit Go.Proofs.YtonpekldcnankaaW.PrintWords Go.Proofs.YtonpekldcnankaaW.PrintLast Go.Proofs.YtonpekldcnankaaW.PrintMore Go.Proofs.Ytonpekldcnankaa.Ma
set_option linter.unusedVariables false
set_option linter.unusedSimpArgs false
theorem top_two {lu:List Int} (hd:dgH lu) {n:Nat} (hl:lu.length = n + 1) (hn:0 < n):nH lu / 4294967296 ^ (n - 1) = (at0 lu n).toNat * 4294967296 + (at0 lu (n - 1)).toNat:=by
  have hlt:=num_lt hd
  rw [hl] at hlt
  have e1:=at0_num (by decide) hd n
  have e2:=at0_num (by decide) hd (n - 1)
  rw [e1,e2,Int.toNat_natCast,Int.toNat_natCast]
  have h0:nH lu / 4294967296 ^ n / 4294967296 = 0:=by rw [Nat.div_div_eq_div_mul,← Nat.pow_succ];exact Nat.div_eq_of_lt hlt
  have h1:nH lu / 4294967296 ^ n = nH lu / 4294967296 ^ (n - 1) / 4294967296:=by rw [Nat.div_div_eq_div_mul,← Nat.pow_succ];congr 2;omega
  rw [h1] at h0 ⊢
  show nH lu / 4294967296 ^ (n - 1) = _
  generalize nH lu / 4294967296 ^ (n - 1) = z at *
  omega
theorem guess_ge {U V n:Nat} (hV:0 < V / 4294967296 ^ n):U / V≤(U / 4294967296 ^ n) / (V / 4294967296 ^ n):=by
  rw [Nat.le_div_iff_mul_le hV,Nat.le_div_iff_mul_le (Nat.pow_pos (by decide)),Nat.mul_assoc]
  exact Nat.le_trans (Nat.mul_le_mul_left _ (Nat.div_mul_le_self _ _)) (Nat.div_mul_le_self U V)
theorem ref_guess (g L cap j n c base:Nat) (ok:Nat→Prop) (xs:List Int) (AV:Option Addr) (cv:Nat) (V:Nat) (w:World)
    (hR:Kd.R (Kd.int .u32) 83 w base ok (.slice (some ⟨g,0,none⟩) L cap) xs) (hjn:j + (n + 1)≤L) (hn0:0 < n) (hcu:n + 1≤c) (hv:Kd.C (Kd.int .u32) w AV (big V).length (big V)) (hcv:(big V).length≤cv)
    (hd:dgH xs) (hn:n≤100000) (hV:blen V = n) (h:nH ((xs.drop j).take (n + 1)) < V * 4294967296) :
    Calls Try.prog 139 #[.slice (some ⟨g,j,none⟩) (n + 1) c,.slice AV (big V).length cv] w fun e w' => e = .returned (.int .u32 ((nH ((xs.drop j).take (n + 1)) / V:Nat):Int))∧Kd.R (Kd.int .u32) 83 w' base ok (.slice (some ⟨g,0,none⟩) L cap) (spl xs j (n + 1) (nH ((xs.drop j).take (n + 1)) % V))∧w.grownBy w' (some g):=by
  have hL:L = xs.length:=(Kd.R_reads' hR).1
  have hg:=Kd.R_lt hR g rfl
  have hC:=C_piece hR j (n + 1) hjn (by omega)
  obtain ⟨lu,hlu⟩:∃ lu,(xs.drop j).take (n + 1) = lu:=⟨_,rfl⟩
  have hll:lu.length = n + 1:=by rw [← hlu,List.length_take,List.length_drop];omega
  have hdu:dgH lu:=fun x hx => hd x (List.mem_of_mem_drop (List.mem_of_mem_take (hlu ▸ hx)))
  have HT:=fun (W:World) (hR':Kd.R (Kd.int .u32) 83 W base ok (.slice (some ⟨g,0,none⟩) L cap) xs) (hv':Kd.C (Kd.int .u32) W AV (big V).length (big V)) (q:Nat) (hq:q < 18446744073709551616) (h1:V * q≤nH ((xs.drop j).take (n + 1))) => ref_take_yes g L cap j (n + 1) c base ok xs AV cv V q W hR' hjn (by omega) hcu hv' hcv hd (by omega) (by omega) hq h1
  rw [hlu] at h hC HT ⊢
  rw [← hll] at hC
  have HF:=fun (W:World) (hu':Kd.C (Kd.int .u32) W (some ⟨g,j,none⟩) lu.length lu) (hv':Kd.C (Kd.int .u32) W AV (big V).length (big V)) (q:Nat) (hq:q < 18446744073709551616) (h1:nH lu < V * q) => ref_take_no (some ⟨g,j,none⟩) c lu AV cv V q W hu' (by omega) hv' hcv hdu (by omega) (by omega) hq h1
  have hV0:V≠0:=fun e => by rw [e,blen_zero] at hV;omega
  have hvt:0 < V / 4294967296 ^ (n - 1):=by
    have:=blen_ge hV0;rw [hV] at this
    exact Nat.div_pos this (Nat.pow_pos (by decide))
  have htop:=top_two hdu hll hn0
  have hge:=guess_ge (U:=nH lu) hvt
  have hUV:nH lu / V < 4294967296:=(Nat.div_lt_iff_lt_mul (Nat.pos_of_ne_zero hV0)).2 (by rw [Nat.mul_comm];exact h)
  obtain ⟨ad1,f1,hx1⟩:=Kd.at_int hC ((n:Nat):Int) (by omega) (by omega)
  obtain ⟨ad2,f2,hx2⟩:=Kd.at_int hC ((n - 1:Nat):Int) (by omega) (by omega)
  obtain ⟨ad3,f3,hx3⟩:=Kd.at_int hv ((n - 1:Nat):Int) (by omega) (by rw [big_length];omega)
  have hvl:(big V).length = n:=by rw [big_length,hV]
  rw [hvl] at hv hcv HT HF ⊢
  rw [hll] at hC HF
  cases f1
  cases f2
  have ea:∀ i,(⟨g,j,none⟩:Addr).add i = ⟨g,j + i,none⟩:=fun i => by unfold Addr.add;split <;> simp_all
  rw [Int.toNat_natCast,ea,rdA] at hx1 hx2
  rw [Int.toNat_natCast,rdA,at0_big] at hx3
  obtain ⟨x1,hX1⟩:∃ x:Nat,at0 lu n = (x:Int):=Int.eq_ofNat_of_zero_le (at0_dg (by decide) hdu n).1
  obtain ⟨x2,hX2⟩:∃ x:Nat,at0 lu (n - 1) = (x:Int):=Int.eq_ofNat_of_zero_le (at0_dg (by decide) hdu (n - 1)).1
  have hl1:=(at0_dg (by decide) hdu n).2
  have hl2:=(at0_dg (by decide) hdu (n - 1)).2
  rw [hX1] at hl1 hx1 htop
  rw [hX2] at hl2 hx2 htop
  rw [Int.toNat_natCast,Int.toNat_natCast] at htop
  have hvm:V / 4294967296 ^ (n - 1) % 4294967296 = V / 4294967296 ^ (n - 1):=Nat.mod_eq_of_lt ((Nat.div_lt_iff_lt_mul (Nat.pow_pos (by decide))).2 (by
    have:=blen_lt V;rw [hV] at this
    rw [← Nat.pow_succ',Nat.succ_eq_add_one,show n - 1 + 1 = n by omega];exact this))
  have hvl2:=Nat.mod_lt (V / 4294967296 ^ (n - 1)) (show 0 < 4294967296 by decide)
  rw [hvm] at hx3 hvl2
  rw [htop] at hge
  clear htop hvm
  generalize V / 4294967296 ^ (n - 1) = vt at *
  have hw1:IntKind.i64.wrap ((n:Int) - 1) = ((n - 1:Nat):Int):=by rw [i64_w,w64 (by omega) (by omega)];omega
  have htv:Go.bits .or .u64 (IntKind.u64.wrap (IntKind.u64.wrap (x1:Int) * 4294967296)) (IntKind.u64.wrap (x2:Int)) = ((x1 * 4294967296 + x2:Nat):Int):=by
    have q2:IntKind.u64.wrap (IntKind.u64.wrap (x1:Int) * 4294967296) = ((x1 * 4294967296:Nat):Int):=by simp only [wU];omega
    have q1:IntKind.u64.wrap (x2:Int) = (x2:Int):=by rw [wU];omega
    rw [q2,q1,b_or_add 32 (by omega) (by omega) (by omega) (by omega) (by simp) (by simp;omega)];omega
  have htl:x1 * 4294967296 + x2 < 18446744073709551616:=by omega
  have htv2:Go.bits .or .u64 ((x1:Int) * 4294967296) (x2:Int) = ((x1 * 4294967296 + x2:Nat):Int):=by
    rw [b_or_add 32 (by omega) (by omega) (by omega) (by omega) (by simp) (by simp;omega)];omega
  generalize x1 * 4294967296 + x2 = top at *
  obtain ⟨q0,hq0⟩:∃ q0,top / vt = q0:=⟨_,rfl⟩
  have hql:q0≤top:=hq0 ▸ Nat.div_le_self _ _
  have hvw:IntKind.u64.wrap (vt:Int) = (vt:Int):=by rw [wU];omega
  have hvz:decide ((vt:Int) = 0) = false:=decide_eq_false (by omega)
  have hqw:IntKind.u64.wrap (Int.tdiv (top:Int) (vt:Int)) = (q0:Int):=by rw [Int.tdiv_eq_ediv_of_nonneg (by omega),← Int.natCast_ediv,hq0,wU];omega
  have hqw2:IntKind.u64.wrap ((top:Int) / (vt:Int)) = (q0:Int):=by rw [← Int.natCast_ediv,hq0,wU];omega
  rw [hq0] at hge
  clear hq0
  subst f3
  have p1:(0:Int)≤(n:Int):=by omega
  have p2:(0:Int)≤((n - 1:Nat):Int):=by omega
  have p3:((n - 1:Nat):Int) < (n:Int):=by omega
  have p4:(n:Int) < ((n + 1:Nat):Int):=by omega
  have p5:((n - 1:Nat):Int) < ((n + 1:Nat):Int):=by omega
  have HR:=Aside0.mk hR
  have HC:=Aside0.mk hC
  have HV:=Aside0.mk hv
  have HTA:=Aside0.mk HT
  have HFA:=Aside0.mk HF
  clear hR hC hv HT HF hlu hdu hd
  obtain ⟨Q,hQ⟩:∃ Q,nH lu / V = Q:=⟨_,rfl⟩
  obtain ⟨M,hM⟩:∃ M,nH lu % V = M:=⟨_,rfl⟩
  have hyes:∀ q,Q≤q→V * q≤nH lu→q = Q∧nH lu - V * q = M:=by
    intro q h1 h2
    have h3:q≤Q:=by rw [← hQ,Nat.le_div_iff_mul_le (Nat.pos_of_ne_zero hV0),Nat.mul_comm];exact h2
    have h4:q = Q:=Nat.le_antisymm h3 h1
    refine ⟨h4,?_⟩
    rw [h4,← hQ,← hM]
    have:=Nat.div_add_mod (nH lu) V
    omega
  have hno:∀ q,Q≤q→nH lu < V * q→Q < q:=by
    intro q h1 h2
    rcases Nat.lt_or_ge Q q with h3 | h3
    · exact h3
    · exfalso
      have h4:q = Q:=Nat.le_antisymm h3 h1
      have:=Nat.mul_div_le (nH lu) V
      rw [h4,← hQ] at h2
      omega
  rw [hQ] at hge hUV ⊢
  rw [hM]
  clear hQ hM h hV0
  have HY:=Aside0.mk hyes
  have HN:=Aside0.mk hno
  clear hyes hno
  go_enter Try.func139,Try.ntmps139
  go_wp2
  go_quiet (fail)
  have HB0:=Aside0.mk (pw_below_drewN (Below.refl w.heap.size w) nq)
  by_cases hbig:4294967295 < q0
  · have d1:decide ((4294967295:Int) < (q0:Int)) = true:=decide_eq_true (by omega)
    have d2:decide ((q0:Int) > 4294967295) = true:=decide_eq_true (by omega)
    obtain ⟨qs,hqs⟩:∃ qs:Nat,qs = 4294967295:=⟨_,rfl⟩
    have hqs1:Q≤qs:=by omega
    have hqs2:=Aside0.mk (show qs < 4294967296 by omega)
    have eqs:=Aside0.mk (show (4294967295:Int) = (qs:Int) by omega)
    clear hbig hqs hUV
    go_wp2
    clear d1 d2
    go_loopg [7] (qs - Q + 1) (fun m v7 wr => ∃ q:Nat,v7 = .int .u64 q∧q < Q + m∧Q≤q∧q≤qs∧Aside0 (Below w.heap.size w wr))
    case atStart => exact ⟨qs,by first | rfl | rw [eqs.out],by omega,hqs1,Nat.le_refl _,HB0⟩
    case round =>
      obtain ⟨q,rfl,hqm,hqQ,hqq,HB⟩:=hrel
      cases gk with
      | zero => omega
      | succ k1 =>
        rcases Nat.lt_or_ge (nH lu) (V * q) with hlt | hle
        · have hQq:=HN.out q hqQ hlt
          have hqw3:IntKind.u64.wrap ((q:Int) - 1) = ((q - 1:Nat):Int):=by rw [wU];have:=hqs2.out;omega
          go_wp2_with (go_at_call 170;refine (HFA.out _ (Kd.C_below HC.out HB.out) (Kd.C_below HV.out HB.out) q (by have:=hqs2.out;omega) hlt).mono ?_;rintro e w5 ⟨rfl,hb⟩;have HB5:=Aside0.mk (below_then HB.out HB.out.size hb);clear hb)
          go_roundg k1
          case measure => omega
          case rel => exact ⟨q - 1,by go_num,by omega,by omega,by omega,HB5⟩
        · have HYQ:=Aside0.mk (HY.out q hqQ hle)
          go_wp2_with (go_at_call 170;refine (HTA.out _ (Kd.R_below HR.out HB.out) (Kd.C_below HV.out HB.out) q (by have:=hqs2.out;omega) hle).mono ?_;rintro e w5 ⟨rfl,hr5,hg5⟩)
          obtain ⟨hq1,hq2⟩:=HYQ.out
          have eqv:(q:Int) % 4294967296 = (Q:Int):=by have:=hqs2.out;omega
          rw [hq2] at hr5
          clear hq1 hq2
          go_ret
          exact ⟨by rw [eqv];rfl,hr5,grown_then (grown_of_below HB.out _) hg5⟩
  · have d1:decide ((4294967295:Int) < (q0:Int)) = false:=decide_eq_false (by omega)
    have d2:decide ((q0:Int) > 4294967295) = false:=decide_eq_false (by omega)
    obtain ⟨qs,hqs⟩:∃ qs:Nat,qs = q0:=⟨_,rfl⟩
    have hqs1:Q≤qs:=by omega
    have hqs2:=Aside0.mk (show qs < 4294967296 by omega)
    have eqs:=Aside0.mk (show (q0:Int) = (qs:Int) by omega)
    clear hbig hqs hUV
    go_wp2
    clear d1 d2
    go_loopg [7] (qs - Q + 1) (fun m v7 wr => ∃ q:Nat,v7 = .int .u64 q∧q < Q + m∧Q≤q∧q≤qs∧Aside0 (Below w.heap.size w wr))
    case atStart => exact ⟨qs,by first | rfl | rw [eqs.out],by omega,hqs1,Nat.le_refl _,HB0⟩
    case round =>
      obtain ⟨q,rfl,hqm,hqQ,hqq,HB⟩:=hrel
      cases gk with
      | zero => omega
      | succ k1 =>
        rcases Nat.lt_or_ge (nH lu) (V * q) with hlt | hle
        · have hQq:=HN.out q hqQ hlt
          have hqw3:IntKind.u64.wrap ((q:Int) - 1) = ((q - 1:Nat):Int):=by rw [wU];have:=hqs2.out;omega
          go_wp2_with (go_at_call 170;refine (HFA.out _ (Kd.C_below HC.out HB.out) (Kd.C_below HV.out HB.out) q (by have:=hqs2.out;omega) hlt).mono ?_;rintro e w5 ⟨rfl,hb⟩;have HB5:=Aside0.mk (below_then HB.out HB.out.size hb);clear hb)
          go_roundg k1
          case measure => omega
          case rel => exact ⟨q - 1,by go_num,by omega,by omega,by omega,HB5⟩
        · have HYQ:=Aside0.mk (HY.out q hqQ hle)
          go_wp2_with (go_at_call 170;refine (HTA.out _ (Kd.R_below HR.out HB.out) (Kd.C_below HV.out HB.out) q (by have:=hqs2.out;omega) hle).mono ?_;rintro e w5 ⟨rfl,hr5,hg5⟩)
          obtain ⟨hq1,hq2⟩:=HYQ.out
          have eqv:(q:Int) % 4294967296 = (Q:Int):=by have:=hqs2.out;omega
          rw [hq2] at hr5
          clear hq1 hq2
          go_ret
          exact ⟨by rw [eqv];rfl,hr5,grown_then (grown_of_below HB.out _) hg5⟩
end Go.Proofs.Ytonpekldcnankaa.X
end
