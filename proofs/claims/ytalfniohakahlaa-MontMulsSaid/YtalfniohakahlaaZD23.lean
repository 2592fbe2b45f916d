/- Texts of the walk and of the plain laws, laid together by a program: X13, Dw, X11, Sp5b. -/
import Derived.Defers
import Derived.Recover
import Derived.Test.YtalfniohakahlaaZD0
import Derived.Test.YtalfniohakahlaaZD1
import Derived.Test.YtalfniohakahlaaZD2
import Derived.Test.YtalfniohakahlaaZD5
import Derived.Test.YtalfniohakahlaaZD4
import Derived.Test.YtalfniohakahlaaZD6
import Derived.Test.YtalfniohakahlaaZD3
import Derived.Test.YtalfniohakahlaaZD9
import Derived.Test.YtalfniohakahlaaZD15
import Derived.Test.YtalfniohakahlaaZD21
set_option maxHeartbeats 8000000
set_option maxRecDepth 100000
section
namespace Go.Proofs.Ytalfniohakahlaa.X
open Go.RowKit Go.Proofs.YtalfniohakahlaaW.PrintWords Go.Proofs.YtalfniohakahlaaW.PrintLast Go.Proofs.YtalfniohakahlaaW.PrintMore
attribute [local go_sem] max2_int min2_int max_two min_two max_three min_three max_four min_four
set_option linter.unusedVariables false
set_option linter.unusedSimpArgs false
def sconceref03_Words.f (l0:List Int):Option (Int):=some (wrap64 (Int.tdiv (wrap64 ((l0.length:Int) + 1)) 2))
theorem sconceref03_Words.calls (A0:Option Addr) (c0:Nat) (l0:List Int) (r:Int) (w:World) (hr0:Kd.C (Kd.int .u32) w A0 l0.length l0) (hc0:l0.length≤c0) (h:sconceref03_Words.f l0 = some r) :
  Calls Try.prog 54 #[.slice A0 l0.length c0] w fun e w' => e = .returned (.int .i64 r)∧Drawn0 w w':=by
 have HR0:=Aside0.mk hr0
 have HC0:=Aside0.mk hc0
 clear hr0 hc0
 have H:(some (wrap64 (Int.tdiv (wrap64 ((l0.length:Int) + 1)) 2))) = some r:=h
 clear h
 obtain rfl:=Option.some.inj H
 go_enter Try.func54,Try.ntmps54
 go_wp2
 go_ret
 exact ⟨by first | rfl | (simp;done) | (simp [*];done),by repeat (first | exact Drawn0.refl _ | apply Drawn0.step)⟩
def sconceref03_Least.f (k:Nat) (l0:List Int):Option (List Int):=(sconceref03_Words.f l0).bind fun t316 => ((sconceref03_Nat.f k l0 (mx t316 1)).bind fun t317 => (some t317))
theorem sconceref03_Least.calls (k:Nat) (A0:Option Addr) (c0:Nat) (l0:List Int) (r:List Int) (w:World) (hr0:Kd.C (Kd.int .u32) w A0 l0.length l0) (hc0:l0.length≤c0) (h:sconceref03_Least.f k l0 = some r) :
  Calls Try.prog 23 #[.slice A0 l0.length c0] w fun e w' => ∃ v0_:Value,e = .returned (v0_)∧Kd.R (Kd.int .u64) 37 w' w.heap.size (fun _ => True) v0_ r∧Below w.heap.size w w':=by
 have HR0:=Aside0.mk hr0
 have HC0:=Aside0.mk hc0
 clear hr0 hc0
 have HB:=Aside0.mk (Below.refl w.heap.size w)
 have H:((sconceref03_Words.f l0).bind fun t316 => ((sconceref03_Nat.f k l0 (mx t316 1)).bind fun t317 => (some t317))) = some r:=h
 clear h
 replace H:=Option.bind_eq_some_iff.mp H
 obtain ⟨t316,A20,H⟩:=H
 replace H:((sconceref03_Nat.f k l0 (mx t316 1)).bind fun t317 => (some t317)) = some r:=H
 have A2:=Aside0.mk A20
 clear A20
 obtain ⟨ji3,hji3⟩:∃ j_:Int,(mx t316 1) = j_:=⟨_,rfl⟩
 replace H:((sconceref03_Nat.f k l0 (ji3)).bind fun t317 => (some t317)) = some r:=by first | (rw [hji3] at H;exact H) | (simp only [hji3] at H ⊢;exact H)
 (try rw [hji3] at A2)
 (try (have hji3l:1≤ji3:=by (rw [← hji3];unfold mx;(repeat' split) <;> omega)))
 (try (have hji3m:0≤ji3:=by omega))
 have hji3_:(if t316 < 1 then 1 else t316) = ji3:=hji3
 replace H:=Option.bind_eq_some_iff.mp H
 obtain ⟨t317,A40,H⟩:=H
 replace H:(some t317) = some r:=H
 have A4:=Aside0.mk A40
 clear A40
 obtain rfl:=Option.some.inj H
 go_enter Try.func23,Try.ntmps23
 go_wp2_with (first | ((with_reducible refine gate_callee (f:=54) rfl ?_);refine goesL_ (some 5) rfl rfl Try.func54 (by kernel_rfl) rfl #[.slice A0 l0.length c0] rfl vA ?_;(with_reducible refine (sconceref03_Words.calls _ _ l0 t316 _ ?side1 ?side2 A2.out).mono ?_);(case side1 => repeat (first | exact HR0.out | (with_reducible refine Kd.C_alloc ?_ _) | (with_reducible refine Kd.C_drewN ?_ _) | (with_reducible refine Kd.C_drew ?_)));(case side2 => exact HC0.out);rintro e w' ⟨rfl,⟨nd,rfl⟩⟩;refine ⟨_,rfl,?_⟩) | ((with_reducible refine gate_callee (f:=50) rfl ?_);refine goesL_ (some 7) rfl rfl Try.func50 (by kernel_rfl) rfl #[.slice A0 l0.length c0,.int .i64 ji3] rfl (by (try simp only [List.map_toArray,List.map_cons,List.map_nil]);first | done | (simp only [hji3];rfl) | rfl | (simp only [List.length_drop,List.length_take];rfl)) ?_;(with_reducible refine (sconceref03_Nat.calls k _ _ l0 ji3 t317 _ ?side1 ?side2 A4.out).mono ?_);(case side1 => repeat (first | exact HR0.out | (with_reducible refine Kd.C_alloc ?_ _) | (with_reducible refine Kd.C_drewN ?_ _) | (with_reducible refine Kd.C_drew ?_)));(case side2 => exact HC0.out);rintro e w5 ⟨v318,rfl,ho0,hb⟩;refine ⟨_,rfl,?_⟩;have n0_:=Aside0.mk (Kd.R_lower ho0 (below_size (vB HB.out)));have n1_:=Aside0.mk (below_step (vB HB.out) hb);clear HB;have HO319:=n0_;have HB:=n1_;clear n0_ n1_;(try clear hb);(try clear hb2);(try clear hk);(try clear hi);(try clear ho0)))
 go_ret
 exact ⟨_,by first | rfl | (simp [errW_none,errW_some] <;> rfl) | (simp only [← hji3];first | rfl | (simp [errW_none,errW_some] <;> rfl)) | (simp [*,errW_none,errW_some] <;> rfl),by (with_reducible repeat (first | apply Kd.R_alloc | apply Kd.R_drewN | apply Kd.R_drew));exact HO319.out,by repeat (first | (with_reducible first | exact HB.out | apply below_alloc | apply pw_below_drewN | apply below_drew1) | exact HB.out)⟩
end Go.Proofs.Ytalfniohakahlaa.X
end
section
namespace Go.Proofs.Ytalfniohakahlaa.X
open Go.RowKit Go.Proofs.YtalfniohakahlaaW.PrintWords Go.Proofs.YtalfniohakahlaaW.PrintLast Go.Proofs.YtalfniohakahlaaW.PrintMore Go.Proofs.Ytalfniohakahlaa.Ma
set_option linter.unusedVariables false
set_option linter.unusedSimpArgs false
theorem box_stay {w W:World} {b:Nat} {v:Value} {t:TypeId} (h:w.heap[b]? = some (.cells #[v] t (0,0))) (hb:Below w.heap.size w W):W.cell? ⟨b,0,none⟩ = some v:=cell_of_one (blk_below h hb)
def DvI (w:World) (A M n m k:Nat) (vq vr:Value) (wr:World):Prop :=
  Kd.R (Kd.int .u64) 37 wr w.heap.size (fun k_ => w.heap.size≤k_) vq (wds n (A / 2 ^ k / M * 2 ^ k)) ∧
  Kd.R (Kd.int .u64) 37 wr w.heap.size (fun k_ => w.heap.size≤k_∧some k_≠vq.ownBlock) vr (wds m (A / 2 ^ k % M))∧Below w.heap.size w wr
theorem DvI.step {w wr w7:World} {A M n m kk gq cq f base7:Nat} {vr v7:Value} (hI:DvI w A M n m (kk + 1) (.slice (some ⟨gq,0,none⟩) n cq) vr wr) (hB7:Below wr.heap.size wr w7) (hb7:wr.heap.size≤base7)
    (hR7:Kd.R (Kd.int .u64) 37 w7 base7 (fun _ => True) v7 (wds m (A / 2 ^ kk % M))) (hkk:kk < 64 * n) (hA:A < 18446744073709551616 ^ n) (hf:f < 2) (hq:A / 2 ^ kk / M = 2 * (A / 2 ^ (kk + 1) / M) + f) :
    ∃ y0:Int,w7.cell? ⟨gq,kk / 64,none⟩ = some (.int .u64 y0)∧w7.frozen? ⟨gq,kk / 64,none⟩ = false ∧
      DvI w A M n m kk (.slice (some ⟨gq,0,none⟩) n cq) v7 ((w7.setCell ⟨gq,kk / 64,none⟩ (.int .u64 (Go.bits .or .u64 y0 (IntKind.u64.wrap ((f:Int) * 2 ^ (kk % 64)))))).drew):=by
  obtain ⟨h1,h2,h3⟩:=hI
  have hk:kk / 64 < n:=by omega
  have hlt:gq < wr.heap.size:=Kd.R_lt h1 gq rfl
  have hwq:w.heap.size≤gq:=h1.1 gq rfl
  have h17:=Kd.R_below h1 hB7
  obtain ⟨hx,hfz⟩:=Kd.R_celln 0 h17 ((kk / 64:Nat):Int) (by omega) (by omega)
  rw [Int.toNat_natCast] at hx hfz
  obtain ⟨hP,hQ⟩:=Kd.R_putg h17 ((kk / 64:Nat):Int) (Go.bits .or .u64 (at0 (wds n (A / 2 ^ (kk + 1) / M * 2 ^ (kk + 1))) (kk / 64)) (IntKind.u64.wrap ((f:Int) * 2 ^ (kk % 64))))
  rw [Int.toNat_natCast] at hP hQ
  have hQl:A / 2 ^ (kk + 1) / M * 2 ^ (kk + 1) < 18446744073709551616 ^ n:=by
    refine Nat.lt_of_le_of_lt (Nat.le_trans (Nat.mul_le_mul_right _ (Nat.div_le_self _ _)) (Nat.div_mul_le_self _ _)) hA
  rw [dq_set hkk (Nat.mul_mod_left _ _) hQl hf,show A / 2 ^ (kk + 1) / M * 2 ^ (kk + 1) + f * 2 ^ kk = A / 2 ^ kk / M * 2 ^ kk by rw [hq,Nat.add_mul,Nat.pow_succ];congr 1;rw [Nat.mul_comm (2 ^ kk) 2,← Nat.mul_assoc,Nat.mul_comm _ 2]] at hP
  refine ⟨at0 (wds n (A / 2 ^ (kk + 1) / M * 2 ^ (kk + 1))) (kk / 64),?_,hfz,?_⟩
  · rw [hx]
    show some (Value.int .u64 (rdOf 0 _ _)) = _
    unfold rdOf at0
    rw [Int.toNat_natCast]
  · have h7b:=Kd.R_bound hR7
    refine ⟨Kd.R_below hP (Below.drew (Below.refl _ _)),Kd.R_below (Kd.R_grown (Kd.R_mono (Kd.R_lower h7b (by omega)) (ok':=fun k_ => w.heap.size≤k_∧some k_≠(Value.slice (some ⟨gq,0,none⟩) n cq).ownBlock) (fun k hk2 => ⟨?_,?_⟩)) hQ (fun k hk2 e => ?_)) (Below.drew (Below.refl _ _)),?_⟩
    · have:=hk2.2.1
      omega
    · have:=hk2.2.1
      simp [Value.ownBlock]
      omega
    · exact hk2.2 e
    · exact Below.drew (pw_below_grown (below_then h3 h3.size hB7) (some gq) (below_then h3 h3.size hB7).size hQ (fun k hk2 => by cases hk2;exact hwq))
end Go.Proofs.Ytalfniohakahlaa.X
end
section
namespace Go.Proofs.Ytalfniohakahlaa.X
open Go.RowKit Go.Proofs.YtalfniohakahlaaW.PrintWords Go.Proofs.YtalfniohakahlaaW.PrintLast Go.Proofs.YtalfniohakahlaaW.PrintMore
attribute [local go_sem] max2_int min2_int max_two min_two max_three min_three max_four min_four
set_option linter.unusedVariables false
set_option linter.unusedSimpArgs false
def sconcelaw05_Few.l0:Nat→List (List Int)→Int→Int→Option (Bool)
 | 0,_,_,_ => none
 | k + 1,x5,x6,x7 => if x7 < x6 then (if 0≤x7 then (if x7 < (x5.length:Int) then (if ((rd_L2 x5 x7).length:Int) > 40 then (some false) else (sconcelaw05_Few.l0 k x5 x6 (wrap64 (x7 + 1)))) else (none)) else (none)) else (some true)
def sconcelaw05_Few.f (k:Nat) (l0:List (List Int)):Option (Bool):=sconcelaw05_Few.l0 k l0 (l0.length:Int) 0
theorem sconcelaw05_Few.calls (k:Nat) (A0:Option Addr) (c0:Nat) (l0:List (List Int)) (r:Bool) (w:World) (hr0:Kd.C (Kd.slice 37 (Kd.int .u64)) w A0 l0.length l0) (hc0:l0.length≤c0) (h:sconcelaw05_Few.f k l0 = some r) :
  Calls Try.prog 16 #[.slice A0 l0.length c0] w fun e w' => e = .returned (.bool r)∧Drawn0 w w':=by
 have HR0:=Aside0.mk hr0
 have HC0:=Aside0.mk hc0
 clear hr0 hc0
 have H:(sconcelaw05_Few.l0 k l0 (l0.length:Int) 0) = some r:=h
 clear h
 have H':=Aside0.mk H
 clear H
 go_enter Try.func16,Try.ntmps16
 go_wp2
 go_loopg [7] k (fun kq v7 w' => ∃ (x7_1:Int),v7 = .int .i64 x7_1∧Aside0 (sconcelaw05_Few.l0 kq l0 (l0.length:Int) x7_1 = some r)∧Aside0 (kq≤k)∧Drawn0 w w')
 case atStart => exact ⟨(0),(by first | rfl | (simp;done) | (simp [*];done)),H',⟨Nat.le_refl _⟩,by repeat (first | exact Drawn0.refl _ | apply Drawn0.step)⟩
 case round =>
  clear H'
  try clear c1
  obtain ⟨x7_1,rfl,HA,HK1,⟨m1,rfl⟩⟩:=hrel
  cases gk with
  | zero => exact absurd HA.out (by simp [sconcelaw05_Few.l0])
  | succ k1 =>
   have H:=HA.out
   clear HA
   simp only [sconcelaw05_Few.l0] at H
   by_cases c2:x7_1 < (l0.length:Int)
   ·
    rw [if_pos c2] at H
    have c2b0:decide (x7_1 < (l0.length:Int)) = true:=decide_eq_true c2
    clear c2
    by_cases c3:0≤x7_1
    ·
     rw [if_pos c3] at H
     have c3b0:decide (0≤x7_1) = true:=decide_eq_true c3
     clear c3
     by_cases c4:x7_1 < (l0.length:Int)
     ·
      rw [if_pos c4] at H
      have c4b0:decide (x7_1 < (l0.length:Int)) = true:=decide_eq_true c4
      clear c4
      by_cases c5:((rd_L2 l0 x7_1).length:Int) > 40
      ·
       rw [if_pos c5] at H
       have c5b0:decide (40 < ((rd_L2 l0 x7_1).length:Int)) = true:=decide_eq_true c5
       have c5b1:decide (40 < (rd_L2 l0 x7_1).length) = true:=decide_eq_true (by omega)
       clear c5
       obtain rfl:=Option.some.inj H
       have p257:0≤(x7_1:Int):=of_decide_eq_true vD
       have q257:x7_1 < (l0.length:Int):=of_decide_eq_true vD
       obtain ⟨ad257,A257_0,c257_0,e257,hx257_0,hl257_0,hi257_0⟩:=at_L2 HR0.out x7_1 p257 q257
       cases e257
       have HR257_0:=Aside0.mk hi257_0
       have HC257_0:=Aside0.mk hl257_0
       clear hi257_0 hl257_0
       replace p257:=eq_true p257
       replace q257:=eq_true q257
       go_wp2
       go_ret
       exact ⟨by first | rfl | (simp;done) | (simp [*];done),by repeat (first | exact Drawn0.refl _ | apply Drawn0.step)⟩
      ·
       rw [if_neg c5] at H
       have c5b0:decide (40 < ((rd_L2 l0 x7_1).length:Int)) = false:=decide_eq_false c5
       have c5b1:decide (40 < (rd_L2 l0 x7_1).length) = false:=decide_eq_false (by omega)
       clear c5
       have H':=Aside0.mk H
       clear H
       have p257:0≤(x7_1:Int):=of_decide_eq_true vD
       have q257:x7_1 < (l0.length:Int):=of_decide_eq_true vD
       obtain ⟨ad257,A257_0,c257_0,e257,hx257_0,hl257_0,hi257_0⟩:=at_L2 HR0.out x7_1 p257 q257
       cases e257
       have HR257_0:=Aside0.mk hi257_0
       have HC257_0:=Aside0.mk hl257_0
       clear hi257_0 hl257_0
       replace p257:=eq_true p257
       replace q257:=eq_true q257
       go_wp2
       go_roundg k1
       case measure => have:=HK1.out;omega
       case rel => exact ⟨(wrap64 (x7_1 + 1)),(by first | rfl | (simp;done) | (simp [*];done)),H',⟨by have:=HK1.out;omega⟩,by repeat (first | exact Drawn0.refl _ | apply Drawn0.step)⟩
     ·
      rw [if_neg c4] at H
      exact absurd H (by simp)
    ·
     rw [if_neg c3] at H
     exact absurd H (by simp)
   ·
    rw [if_neg c2] at H
    have c2b0:decide (x7_1 < (l0.length:Int)) = false:=decide_eq_false c2
    clear c2
    obtain rfl:=Option.some.inj H
    go_wp2
    go_ret
    exact ⟨by first | rfl | (simp;done) | (simp [*];done),by repeat (first | exact Drawn0.refl _ | apply Drawn0.step)⟩
end Go.Proofs.Ytalfniohakahlaa.X
end
section
namespace Go.Proofs.Ytalfniohakahlaa.X
open Go.RowKit Go.Proofs.YtalfniohakahlaaW.PrintWords Go.Proofs.YtalfniohakahlaaW.PrintLast Go.Proofs.YtalfniohakahlaaW.PrintMore Go.Proofs.Ytalfniohakahlaa.Ma
set_option linter.unusedVariables false
theorem Few5_loop (ls:List (List Int)) (hn:ls.length≤1000000000):∀ (d i:Nat),i + d = ls.length→Ev (fun k => sconcelaw05_Few.l0 k ls (ls.length:Int) (i:Int)) (fewB 40 (ls.drop i)):=by
  intro d
  induction d with
  | zero =>
    intro i hi
    refine Ev.step (fun k => by rw [sconcelaw05_Few.l0]) (ev_neg (by omega) (ev_const ?_))
    rw [List.drop_of_length_le (by omega)];rfl
  | succ d ih =>
    intro i hi
    refine Ev.step (fun k => by rw [sconcelaw05_Few.l0,w64_succ (by omega),rdLI]) ?_
    refine ev_pos (by omega) (ev_pos (by omega) (ev_pos (by omega) ?_))
    rw [few_step (show i < ls.length by omega)]
    by_cases h:((ls.getD i []).length:Int) > 40
    · refine ev_pos h (ev_const ?_)
      rw [show decide ((ls.getD i []).length≤40) = false from decide_eq_false (by omega)];rfl
    · refine ev_neg h ?_
      rw [show decide ((ls.getD i []).length≤40) = true from decide_eq_true (by omega),Bool.true_and]
      exact ih (i + 1) (by omega)
theorem sp_Few5 (ls:List (List Int)) (hn:ls.length≤1000000000):Ev (fun k => sconcelaw05_Few.f k ls) (fewB 40 ls):=by
  unfold sconcelaw05_Few.f
  exact Few5_loop ls hn ls.length 0 (by omega)
theorem blen_mul {x y m n:Nat} (hx:blen x≤m) (hy:blen y≤n):blen (x * y)≤m + n:=blen_le (by
  rw [Nat.pow_add]
  have h1:=Nat.lt_of_lt_of_le (blen_lt x) (Nat.pow_le_pow_right (show 0 < 4294967296 by decide) hx)
  have h2:=Nat.lt_of_lt_of_le (blen_lt y) (Nat.pow_le_pow_right (show 0 < 4294967296 by decide) hy)
  exact Nat.mul_lt_mul'' h1 h2)
theorem mx_max (a b:Int):mx a b = max a b:=by unfold mx;omega
theorem sp_Least {x:Nat} (hx:blen x≤1000000):Ev (fun k => sconceref03_Least.f k (big x)) (wds (max (wlen x) 1) x):=by
  unfold sconceref03_Least.f sconceref03_Words.f
  refine ev_bind0 rfl ?_
  have hw:wlen x = (blen x + 1) / 2:=by
    unfold wlen blen
    split <;> omega
  have e1:wrap64 (Int.tdiv (wrap64 (((big x).length:Int) + 1)) 2) = (((blen x + 1) / 2:Nat):Int):=by
    rw [big_length,w64 (n:=(blen x:Int) + 1) (by omega) (by omega),Int.tdiv_eq_ediv_of_nonneg (by omega),w64 (by omega) (by omega)]
    omega
  rw [e1,← hw,mx_max]
  refine ev_bind (sp_Nat (x:=x) (n:=max ((wlen x:Nat):Int) 1) (by omega)) (ev_const ?_)
  congr 2
  omega
end Go.Proofs.Ytalfniohakahlaa.X
end
