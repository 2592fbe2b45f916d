/- Texts of the walk and of the plain laws, laid together by a program: Lb, X0, X1. -/
import Derived.Test.YtalfniohakahlaaZD0
import Derived.Test.YtalfniohakahlaaZD1
import Derived.Test.YtalfniohakahlaaZD2
import Derived.Test.YtalfniohakahlaaZD4
import Derived.Test.YtalfniohakahlaaZD3
set_option maxHeartbeats 8000000
set_option maxRecDepth 100000
section
namespace Go.Proofs.Ytalfniohakahlaa.X
open Go.RowKit Go.Proofs.YtalfniohakahlaaW.PrintWords Go.Proofs.YtalfniohakahlaaW.PrintLast Go.Proofs.YtalfniohakahlaaW.PrintMore
theorem R_makec {P:Program} {ops:Array Oper} {rest:List Oper} {o:Oper} {a:Act} {Q:Exit→Act→World→Prop} (k:IntKind) {w0 W:World} (base e:Nat) (hgd:o.guard = none) {N:Tmp} (_hd:o.dst = some N) (t:TypeId) (x y:Operand) (ho:o.op = .makeSlice t x y) (n c:Int) (hx:a.eval x = .int .i64 n) (hy:a.eval y = .int .i64 c)
    (ht:P.underlying t = some (.slice e)) (bytes:Nat) (hinfo:(P.info? e).map (fun i => (i.zero,i.size,i.bytes)) = some (some (.int k 0),1,bytes)) (hb0:0 < bytes)
    {ok:Nat→Prop} (hfresh:ok W.heap.size) (h0:0≤n) (hnc:n≤c) (hl:c.toNat * bytes≤281474976710656) (HB:Below base w0 W) (hbase:base≤W.heap.size)
    (h:∀ v1 w1,(Kd.int k).R e w1 base ok v1 (List.replicate n.toNat 0)→Below base w0 w1→W.grownBy w1 none→(∃ b,v1.ownBlock = some b∧W.heap.size≤b)→wpList P ops Q rest (a.put o.dst v1) w1):wpList P ops Q (o :: rest) a W:=by
  obtain ⟨m,rfl⟩:=Int.eq_ofNat_of_zero_le h0
  obtain ⟨q,rfl⟩:=Int.eq_ofNat_of_zero_le (Int.le_trans h0 hnc)
  simp only [Int.toNat_natCast] at hl h
  obtain ⟨i0,hi,hzz⟩:=Option.map_eq_some_iff.1 hinfo
  simp only [Prod.mk.injEq] at hzz
  obtain ⟨hz0,hz1,hz2⟩:=hzz
  have hm:q≤281474976710656:=Nat.le_trans (Nat.le_mul_of_pos_right _ hb0) hl
  have hr:=run_make (P:=P) W t e i0 _ ht hi hz0 .i64 .i64 (m:Int) (q:Int) (by omega) (by omega)
    (by
      have h3:((i0.bytes * q:Nat):Int)≤281474976710656:=by rw [hz2,Nat.mul_comm];omega
      rwa [Int.natCast_mul] at h3) (by omega)
  simp only [Int.toNat_natCast] at hr
  rw [hz1] at hr
  refine Kd.event_run hgd (v:=.slice (some ⟨W.heap.size,0,none⟩) m q) (w1:=W.alloc (.cells (madeCells (Value.int k 0).cells (q * 1)) e)) (by simp [execOp,ho,hx,hy,hr]) (h _ _ ?_ (HB.alloc hbase _) (World.grownBy_alloc W _ none) ⟨W.heap.size,by simp [Value.ownBlock],Nat.le_refl _⟩)
  refine Kd.R_of_own (enc:=Value.int k) (h1:=fun _ => rfl) ?_ (fun k' hk => by
    have:W.heap.size = k':=by simpa [Value.ownBlock] using hk
    exact this ▸ hfresh)
  refine ⟨by simp [encs],.inr ⟨W.heap.size,q,madeCells (Value.int k 0).cells (q * 1),by simp,hbase,heap_alloc_new W _,by simp;omega,by unfold maxLen;omega,by simp [madeCells],?_⟩⟩
  apply List.ext_getElem
  · simp [encs,madeCells];omega
  · intro i h1 h2
    simp [encs,madeCells,Value.cells,Nat.mod_one]
def Upd (w w':World) (b:Nat) (u:Value) (t:TypeId):Prop:=w.grownBy w' (some b)∧w'.heap[b]? = some (.cells #[u] t (0,0))
theorem grown_drewN {a w:World} {row:Option Nat} (h:a.grownBy w row) (n:Nat):a.grownBy (w.drewN n) row:=⟨h.os,h.tape,h.output,h.size,h.block⟩
theorem Upd.put {w:World} {b:Nat} {v:Value} {t:TypeId} (hb:w.heap[b]? = some (.cells #[v] t (0,0))) (n:Nat) (u:Value):Upd w ((w.drewN n).setCell ⟨b,0,none⟩ u) b u t:=by
  refine ⟨?_,one_setCell (w:=w.drewN n) hb⟩
  have h:=grown_drewN (World.grownBy.refl w (some b)) n
  exact ⟨h.os,h.tape,h.output,by have hs:=h.size;simp [World.setCell],fun i hi hne => (Below.heap_setCell (w.drewN n) ⟨b,0,none⟩ u i (fun e => hne (by rw [e]))).trans (h.block i hi hne)⟩
theorem Upd.same {w:World} {b:Nat} {v:Value} {t:TypeId} (hb:w.heap[b]? = some (.cells #[v] t (0,0))) (n:Nat):Upd w (w.drewN n) b v t:=⟨grown_drewN (World.grownBy.refl w _) n,hb⟩
theorem Upd.at_ {w w':World} {b:Nat} {u:Value} {t:TypeId} (h:Upd w w' b u t):w'.heap[b]? = some (.cells #[u] t (0,0)):=h.2
theorem Upd.far {w w':World} {b g:Nat} {u:Value} {t:TypeId} {o:Obj} (h:Upd w w' b u t) (hg:w.heap[g]? = some o) (hne:g≠b):w'.heap[g]? = some o:=(h.1.block g (blk_lt hg) (fun e => hne (Option.some.inj e))).trans hg
theorem Upd.below {w0 w w':World} {b:Nat} {u:Value} {t:TypeId} (h:Upd w w' b u t) (hB:Below w0.heap.size w0 w) (hb:w0.heap.size≤b):Below w0.heap.size w0 w':=pw_below_grown hB (some b) hB.size h.1 (fun k hk => by cases hk;exact hb)
theorem Upd.row {w w':World} {b e base:Nat} {u v:Value} {t:TypeId} {k:IntKind} {ok:Nat→Prop} {xs:List Int} (h:Upd w w' b u t) (hr:Kd.R (Kd.int k) e w base ok v xs) (hok:∀ k,ok k→k≠b):Kd.R (Kd.int k) e w' base ok v xs:=Kd.R_grown hr h.1 (fun k hk e => hok k hk (Option.some.inj e))
theorem two_boxes (w:World) (nd:Nat) (a b u:Value) (t:TypeId) :
    ((((w.drewN nd).alloc (.cells #[a] t)).setCell ⟨w.heap.size,0,none⟩ u).alloc (.cells #[b] t)).heap[w.heap.size]? = some (.cells #[u] t (0,0)) ∧
    ((((w.drewN nd).alloc (.cells #[a] t)).setCell ⟨w.heap.size,0,none⟩ u).alloc (.cells #[b] t)).heap[w.heap.size + 1]? = some (.cells #[b] t (0,0)) ∧
    Below w.heap.size w ((((w.drewN nd).alloc (.cells #[a] t)).setCell ⟨w.heap.size,0,none⟩ u).alloc (.cells #[b] t)):=by
  have h1:((w.drewN nd).alloc (.cells #[a] t)).heap[w.heap.size]? = some (.cells #[a] t (0,0)):=heap_alloc_new (w.drewN nd) _
  have h2:=one_setCell (u:=u) h1
  have hs:(((w.drewN nd).alloc (.cells #[a] t)).setCell ⟨w.heap.size,0,none⟩ u).heap.size = w.heap.size + 1:=by simp [World.setCell]
  refine ⟨?_,?_,?_⟩
  · exact (Below.heap_alloc _ _ _ (by rw [hs];omega)).trans h2
  · rw [← hs];exact heap_alloc_new _ _
  · exact ((((pw_below_drewN (Below.refl _ _) nd).alloc (by simp) _).setCell (by simp) _).alloc (by rw [hs];omega) _)
theorem one_box (w:World) (nd:Nat) (a:Value) (t:TypeId) :
    ((w.drewN nd).alloc (.cells #[a] t)).heap[w.heap.size]? = some (.cells #[a] t (0,0))∧Below w.heap.size w ((w.drewN nd).alloc (.cells #[a] t)) :=
  ⟨heap_alloc_new (w.drewN nd) _,(pw_below_drewN (Below.refl _ _) nd).alloc (by simp) _⟩
theorem C_piece {k:IntKind} {e base g L cap:Nat} {ok:Nat→Prop} {w:World} {xs:List Int} (h:Kd.R (Kd.int k) e w base ok (.slice (some ⟨g,0,none⟩) L cap) xs) (j n:Nat) (hjn:j + n≤L) (hm:n≤9223372036854775807) :
    Kd.C (Kd.int k) w (some ⟨g,j,none⟩) n ((xs.drop j).take n):=by
  obtain ⟨hL,_⟩:=Kd.R_reads' h
  refine Kd.C_of_reads (h1:=fun _ => rfl) (d:=(0:Int)) ⟨by rw [List.length_take,List.length_drop];omega,hm,fun hp => ⟨_,rfl,fun i hi => ?_⟩⟩
  have h1:=(Kd.R_celln 0 h ((j + i:Nat):Int) (by omega) (by omega)).1
  rw [Int.toNat_natCast] at h1
  have e1:(⟨g,j,none⟩:Addr).add i = ⟨g,j + i,none⟩:=by unfold Addr.add;split <;> simp_all
  rw [e1,h1]
  have e2:(((j + i:Nat):Int)).toNat = j + i:=Int.toNat_natCast _
  unfold rdOf
  rw [e2]
  simp [List.getD_eq_getElem?_getD,hi]
theorem cut_piece {P:Program} (t e:TypeId) {i:TypeInfo} (ht:P.underlying t = some (.slice e)) (hi:P.info? e = some i) (hsz:i.size = 1) (g n c j m:Nat) (hjm:j + m≤n) (hm:0 < m) (hc:n≤c) :
    ∀ W:World,(Instr.slice t (.slice (some ⟨g,0,none⟩) n c) (some (.int .i64 (j:Int))) (some (.int .i64 ((j + m:Nat):Int))) none).run P W = .ok (.slice (some ⟨g,j,none⟩) m (c - j)) W:=by
  intro W
  have h:=cut_mid (P:=P) t e .i64 .i64 ht hi 1 hsz (some ⟨g,0,none⟩) n c (j:Int) ((j + m:Nat):Int) (by omega) (by omega) (by omega) hc W
  rw [Int.toNat_natCast,Int.toNat_natCast,if_neg (by omega)] at h
  rw [h]
  simp [Addr.add]
  omega
theorem grown_then {w w1 w2:World} {row:Option Nat} (h:w.grownBy w1 row) (h2:w1.grownBy w2 row):w.grownBy w2 row:=by
  exact ⟨h2.os.trans h.os,h2.tape.trans h.tape,h2.output.trans h.output,Nat.le_trans h.size h2.size,fun i hi hne => (h2.block i (Nat.lt_of_lt_of_le hi h.size) hne).trans (h.block i hi hne)⟩
theorem ret_two {k1 k2:IntKind} {a b a' b':Int} (h:a = a') (h':b = b'):Ending.returned (.tuple #[.int k1 a,.int k2 b]) = .returned (.tuple #[.int k1 a',.int k2 b']):=by rw [h,h']
end Go.Proofs.Ytalfniohakahlaa.X
end
section
namespace Go.Proofs.Ytalfniohakahlaa.X
open Go.RowKit Go.Proofs.YtalfniohakahlaaW.PrintWords Go.Proofs.YtalfniohakahlaaW.PrintLast Go.Proofs.YtalfniohakahlaaW.PrintMore
attribute [local go_sem] max2_int min2_int max_two min_two max_three min_three max_four min_four
set_option linter.unusedVariables false
set_option linter.unusedSimpArgs false
def errW:Option Int→Value
 | none => .nilIface
 | some c => .iface 0 (.int .i64 c)
theorem errW_none:errW none = .nilIface:=rfl
theorem errW_some (c:Int):errW (some c) = .iface 0 (.int .i64 c):=rfl
theorem info37:(Try.prog.info? 37).map (fun i => (i.zero,i.size,i.bytes)) = some (some (.int .u64 0),1,8):=by kernel_rfl
theorem info78:(Try.prog.info? 78).map (fun i => (i.zero,i.size,i.bytes)) = some (some (.int .u32 0),1,4):=by kernel_rfl
def rd_L2 (xs:List (List Int)) (i:Int):(List Int):=xs.getD i.toNat ([]:List Int)
theorem at_L2 {w:World} {A:Option Addr} {n:Nat} {xs:List (List Int)} (h:Kd.C (Kd.slice 37 (Kd.int .u64)) w A n xs) (i:Int) (h0:0≤i) (h1:i < n):∃ ad A0 c0,A = some ad∧w.cell? (ad.add i.toNat) = some (.slice A0 (rd_L2 xs i).length c0)∧(rd_L2 xs i).length≤c0∧(Kd.int .u64).C w A0 (rd_L2 xs i).length (rd_L2 xs i):=by
 obtain ⟨ad,c,e,_,hK,hc0⟩:=Kd.C_get h ([]:List Int) i h0 h1
 have hc:∀ j u,c[j]? = some u→w.cell? (ad.add (i.toNat * 1 + j)) = some u:=hc0
 obtain ⟨A0,c0,rfl,l0,g0⟩:=hK
 exact ⟨ad,A0,c0,e,by have hq:=hc 0 _ rfl;rwa [Nat.mul_one,Nat.add_zero] at hq,l0,g0⟩
structure S59 where
 f0:(List Int)
 f1:Int
 f2:(List Int)
end Go.Proofs.Ytalfniohakahlaa.X
end
section
namespace Go.Proofs.Ytalfniohakahlaa.X
open Go.RowKit Go.Proofs.YtalfniohakahlaaW.PrintWords Go.Proofs.YtalfniohakahlaaW.PrintLast Go.Proofs.YtalfniohakahlaaW.PrintMore
attribute [local go_sem] max2_int min2_int max_two min_two max_three min_three max_four min_four
set_option linter.unusedVariables false
set_option linter.unusedSimpArgs false
theorem trace_put_nil (k a b:Int) (w:World) :
  Calls Try.prog 56 #[.pointer none,.agg #[.int .i64 k,.int .i64 a,.int .i64 b]] w fun e w' => e = .returned (.tuple #[])∧Below w.heap.size w w':=by
 go_enter Try.func56,Try.ntmps56
 go_wp2
 refine bodyPost_ret (results_none rfl _ _ _) rfl ⟨rfl,?_⟩
 exact below_alloc (Below.refl _ _) _
def trace_Trace_Span.f (a1:Int):Option Unit:=some ()
theorem trace_Trace_Span.calls (a1:Int) (w:World) (h:trace_Trace_Span.f a1 = some ()) :
  Calls Try.prog 28 #[.pointer none,.int .i64 a1] w fun e w' => e = .returned (.tuple #[])∧Below w.heap.size w w':=by
 clear h
 go_enter Try.func28,Try.ntmps28
 go_wp2_with (go_at_call 56;refine (trace_put_nil _ _ _ _).mono ?_;rintro e w1 ⟨rfl,hb⟩)
 go_end0
 exact ⟨rfl,hb⟩
def product_long.l0:Nat→List (List Int)→Int→Int→Option (Bool)
 | 0,_,_,_ => none
 | k + 1,x5,x6,x7 => if x7 < x6 then (if 0≤x7 then (if x7 < (x5.length:Int) then (if ((rd_L2 x5 x7).length:Int) > 300 then (some true) else (product_long.l0 k x5 x6 (wrap64 (x7 + 1)))) else (none)) else (none)) else (some false)
def product_long.f (k:Nat) (l0:List (List Int)):Option (Bool):=product_long.l0 k l0 (l0.length:Int) 0
theorem product_long.calls (k:Nat) (A0:Option Addr) (c0:Nat) (l0:List (List Int)) (r:Bool) (w:World) (hr0:Kd.C (Kd.slice 37 (Kd.int .u64)) w A0 l0.length l0) (hc0:l0.length≤c0) (h:product_long.f k l0 = some r) :
  Calls Try.prog 47 #[.slice A0 l0.length c0] w fun e w' => e = .returned (.bool r)∧Drawn0 w w':=by
 have HR0:=Aside0.mk hr0
 have HC0:=Aside0.mk hc0
 clear hr0 hc0
 have H:(product_long.l0 k l0 (l0.length:Int) 0) = some r:=h
 clear h
 have H':=Aside0.mk H
 clear H
 go_enter Try.func47,Try.ntmps47
 go_wp2
 go_loopg [7] k (fun kq v7 w' => ∃ (x7_1:Int),v7 = .int .i64 x7_1∧Aside0 (product_long.l0 kq l0 (l0.length:Int) x7_1 = some r)∧Aside0 (kq≤k)∧Drawn0 w w')
 case atStart => exact ⟨(0),(by first | rfl | (simp;done) | (simp [*];done)),H',⟨Nat.le_refl _⟩,by repeat (first | exact Drawn0.refl _ | apply Drawn0.step)⟩
 case round =>
  clear H'
  obtain ⟨x7_1,rfl,HA,HK1,⟨m1,rfl⟩⟩:=hrel
  cases gk with
  | zero => exact absurd HA.out (by simp [product_long.l0])
  | succ k1 =>
   have H:=HA.out
   clear HA
   simp only [product_long.l0] at H
   by_cases c2:x7_1 < (l0.length:Int)
   ·
    rw [if_pos c2] at H
    have c2b0:decide (x7_1 < (l0.length:Int)) = true:=decide_eq_true c2
    clear c2
    by_cases c3:0≤x7_1
    ·
     rw [if_pos c3] at H
     have c3b0:decide (0≤x7_1) = true:=decide_eq_true c3
     clear c3
     by_cases c4:x7_1 < (l0.length:Int)
     ·
      rw [if_pos c4] at H
      have c4b0:decide (x7_1 < (l0.length:Int)) = true:=decide_eq_true c4
      clear c4
      by_cases c5:((rd_L2 l0 x7_1).length:Int) > 300
      ·
       rw [if_pos c5] at H
       have c5b0:decide (300 < ((rd_L2 l0 x7_1).length:Int)) = true:=decide_eq_true c5
       have c5b1:decide (300 < (rd_L2 l0 x7_1).length) = true:=decide_eq_true (by omega)
       clear c5
       obtain rfl:=Option.some.inj H
       have p102:0≤(x7_1:Int):=of_decide_eq_true vD
       have q102:x7_1 < (l0.length:Int):=of_decide_eq_true vD
       obtain ⟨ad102,A102_0,c102_0,e102,hx102_0,hl102_0,hi102_0⟩:=at_L2 HR0.out x7_1 p102 q102
       cases e102
       have HR102_0:=Aside0.mk hi102_0
       have HC102_0:=Aside0.mk hl102_0
       clear hi102_0 hl102_0
       replace p102:=eq_true p102
       replace q102:=eq_true q102
       go_wp2
       go_ret
       exact ⟨by first | rfl | (simp;done) | (simp [*];done),by repeat (first | exact Drawn0.refl _ | apply Drawn0.step)⟩
      ·
       rw [if_neg c5] at H
       have c5b0:decide (300 < ((rd_L2 l0 x7_1).length:Int)) = false:=decide_eq_false c5
       have c5b1:decide (300 < (rd_L2 l0 x7_1).length) = false:=decide_eq_false (by omega)
       clear c5
       have H':=Aside0.mk H
       clear H
       have p102:0≤(x7_1:Int):=of_decide_eq_true vD
       have q102:x7_1 < (l0.length:Int):=of_decide_eq_true vD
       obtain ⟨ad102,A102_0,c102_0,e102,hx102_0,hl102_0,hi102_0⟩:=at_L2 HR0.out x7_1 p102 q102
       cases e102
       have HR102_0:=Aside0.mk hi102_0
       have HC102_0:=Aside0.mk hl102_0
       clear hi102_0 hl102_0
       replace p102:=eq_true p102
       replace q102:=eq_true q102
       go_wp2
       go_roundg k1
       case measure => have:=HK1.out;omega
       case rel => exact ⟨(wrap64 (x7_1 + 1)),(by first | rfl | (simp;done) | (simp [*];done)),H',⟨by have:=HK1.out;omega⟩,by repeat (first | exact Drawn0.refl _ | apply Drawn0.step)⟩
     ·
      rw [if_neg c4] at H
      exact absurd H (by simp)
    ·
     rw [if_neg c3] at H
     exact absurd H (by simp)
   ·
    rw [if_neg c2] at H
    have c2b0:decide (x7_1 < (l0.length:Int)) = false:=decide_eq_false c2
    clear c2
    obtain rfl:=Option.some.inj H
    go_wp2
    go_ret
    exact ⟨by first | rfl | (simp;done) | (simp [*];done),by repeat (first | exact Drawn0.refl _ | apply Drawn0.step)⟩
def bits_Mul64.f (a0:Int) (a1:Int):Option (Int × Int):=some (IntKind.u64.wrap ((IntKind.u64.wrap ((IntKind.u64.wrap ((a0 / 4294967296) * (a1 / 4294967296))) + ((IntKind.u64.wrap ((IntKind.u64.wrap ((a0 / 4294967296) * (Go.bits .and .u64 a1 4294967295))) + ((IntKind.u64.wrap ((Go.bits .and .u64 a0 4294967295) * (Go.bits .and .u64 a1 4294967295))) / 4294967296))) / 4294967296))) + ((IntKind.u64.wrap ((Go.bits .and .u64 (IntKind.u64.wrap ((IntKind.u64.wrap ((a0 / 4294967296) * (Go.bits .and .u64 a1 4294967295))) + ((IntKind.u64.wrap ((Go.bits .and .u64 a0 4294967295) * (Go.bits .and .u64 a1 4294967295))) / 4294967296))) 4294967295) + (IntKind.u64.wrap ((Go.bits .and .u64 a0 4294967295) * (a1 / 4294967296))))) / 4294967296)),IntKind.u64.wrap (a0 * a1))
theorem bits_Mul64.calls (a0:Int) (a1:Int) (r1:Int) (r2:Int) (w:World) (h:bits_Mul64.f a0 a1 = some (r1,r2)) :
  Calls Try.prog 86 #[.int .u64 a0,.int .u64 a1] w fun e w' => e = .returned (.tuple #[.int .u64 r1,.int .u64 r2])∧Drawn0 w w':=by
 have H:(some (IntKind.u64.wrap ((IntKind.u64.wrap ((IntKind.u64.wrap ((a0 / 4294967296) * (a1 / 4294967296))) + ((IntKind.u64.wrap ((IntKind.u64.wrap ((a0 / 4294967296) * (Go.bits .and .u64 a1 4294967295))) + ((IntKind.u64.wrap ((Go.bits .and .u64 a0 4294967295) * (Go.bits .and .u64 a1 4294967295))) / 4294967296))) / 4294967296))) + ((IntKind.u64.wrap ((Go.bits .and .u64 (IntKind.u64.wrap ((IntKind.u64.wrap ((a0 / 4294967296) * (Go.bits .and .u64 a1 4294967295))) + ((IntKind.u64.wrap ((Go.bits .and .u64 a0 4294967295) * (Go.bits .and .u64 a1 4294967295))) / 4294967296))) 4294967295) + (IntKind.u64.wrap ((Go.bits .and .u64 a0 4294967295) * (a1 / 4294967296))))) / 4294967296)),IntKind.u64.wrap (a0 * a1))) = some (r1,r2):=h
 clear h
 simp only [Option.some.injEq,Prod.mk.injEq] at H
 obtain ⟨rfl,rfl⟩:=H
 go_enter Try.func86,Try.ntmps86
 go_wp2
 go_ret2
 exact ⟨by first | rfl | (simp;done) | (simp [*];done),by repeat (first | exact Drawn0.refl _ | apply Drawn0.step)⟩
theorem w_add64 (x y c:Int) (hx:0≤x) (hy:0≤y) (hc0:0≤c) (hc:c≤1) (w:World):(callFunc 87 #[.int .u64 x,.int .u64 y,.int .u64 c]).run Try.prog w =
  .ok (.value (.tuple #[.int .u64 ((x + y + c) % 18446744073709551616),.int .u64 ((x + y + c) / 18446744073709551616)])) w:=by
 obtain ⟨x,rfl⟩:=Int.eq_ofNat_of_zero_le hx
 obtain ⟨y,rfl⟩:=Int.eq_ofNat_of_zero_le hy
 obtain ⟨c,rfl⟩:=Int.eq_ofNat_of_zero_le hc0
 rw [run_callFunc_extern Try.func87 (by kernel_rfl) (by kernel_rfl) (by kernel_rfl) (e:=add64Entry) (by kernel_rfl),run_add64 x y c (by omega) (by omega) (by omega) (by omega)]
 simp only [Result.andThen]
theorem w_add64_0 (x y:Int) (hx:0≤x) (hy:0≤y) (w:World):(callFunc 87 #[.int .u64 x,.int .u64 y,.int .u64 0]).run Try.prog w =
  .ok (.value (.tuple #[.int .u64 ((x + y) % 18446744073709551616),.int .u64 ((x + y) / 18446744073709551616)])) w:=by
 simpa using w_add64 x y 0 hx hy (Int.le_refl 0) (by decide) w
def word_Mul.f (a0 a1 a2 a3:Int):Option (Int × Int) :=
 if ((0≤a0∧a0 < 18446744073709551616)∧(0≤a1∧a1 < 18446744073709551616))∧((0≤a2∧a2 < 18446744073709551616)∧(0≤a3∧a3 < 18446744073709551616)) then some ((a0 * a1 + a2 + a3) / 18446744073709551616,(a0 * a1 + a2 + a3) % 18446744073709551616) else none
theorem mul64_val (a b:Int) (h0:0≤a) (h1:a < 18446744073709551616) (h2:0≤b) (h3:b < 18446744073709551616) :
  bits_Mul64.f a b = some (a * b / 18446744073709551616,a * b % 18446744073709551616):=by
 unfold bits_Mul64.f
 have m32:∀ x:Int,0≤x→x < 18446744073709551616→Go.bits .and .u64 x 4294967295 = x % 4294967296:=by
  intro x hx0 hx1
  have h:=u64_and x 4294967295 hx0 hx1 (by decide) (by decide)
  rw [h,show (4294967295:Int).toNat = 2 ^ 32 - 1 from rfl,Nat.and_two_pow_sub_one_eq_mod]
  omega
 simp only [IntKind.wrap_u64]
 rw [m32 a h0 h1,m32 b h2 h3]
 have ha:a = a / 4294967296 * 4294967296 + a % 4294967296:=by omega
 have hb:b = b / 4294967296 * 4294967296 + b % 4294967296:=by omega
 have u0:0≤a / 4294967296:=by omega
 have u1:a / 4294967296≤4294967295:=by omega
 have u2:0≤a % 4294967296:=by omega
 have u3:a % 4294967296≤4294967295:=by omega
 have v0:0≤b / 4294967296:=by omega
 have v1:b / 4294967296≤4294967295:=by omega
 have v2:0≤b % 4294967296:=by omega
 have v3:b % 4294967296≤4294967295:=by omega
 generalize a / 4294967296 = x1 at *
 generalize a % 4294967296 = x0 at *
 generalize b / 4294967296 = y1 at *
 generalize b % 4294967296 = y0 at *
 have e:a * b = (x1 * y1) * 18446744073709551616 + (x1 * y0) * 4294967296 + (x0 * y1) * 4294967296 + x0 * y0:=by
  rw [ha,hb];simp only [Int.add_mul,Int.mul_add]
  have q1:x1 * 4294967296 * (y1 * 4294967296) = (x1 * y1) * 18446744073709551616:=by
   rw [Int.mul_assoc,Int.mul_left_comm 4294967296,← Int.mul_assoc];rfl
  have q2:x1 * 4294967296 * y0 = x1 * y0 * 4294967296:=by rw [Int.mul_assoc,Int.mul_comm 4294967296,← Int.mul_assoc]
  have q3:x0 * (y1 * 4294967296) = x0 * y1 * 4294967296:=by rw [← Int.mul_assoc]
  omega
 have bd:∀ p q:Int,0≤p→p≤4294967295→0≤q→q≤4294967295→0≤p * q∧p * q≤18446744065119617025:=by
  intro p q hp hp' hq hq'
  exact ⟨Int.mul_nonneg hp hq,Int.le_trans (Int.mul_le_mul hp' hq' hq (by decide)) (by decide)⟩
 obtain ⟨s0,s1⟩:=bd x1 y1 u0 u1 v0 v1
 obtain ⟨s2,s3⟩:=bd x1 y0 u0 u1 v2 v3
 obtain ⟨s4,s5⟩:=bd x0 y1 u2 u3 v0 v1
 obtain ⟨s6,s7⟩:=bd x0 y0 u2 u3 v2 v3
 rw [e]
 clear e ha hb bd
 generalize x1 * y1 = p11 at *
 generalize x1 * y0 = p10 at *
 generalize x0 * y1 = p01 at *
 generalize x0 * y0 = p00 at *
 have k1:0≤p10 + p00 / 4294967296:=by omega
 have k2:p10 + p00 / 4294967296 < 18446744073709551616:=by omega
 have n1:(p00 % 18446744073709551616) = p00:=by omega
 have n2:(p10 % 18446744073709551616) = p10:=by omega
 have n3:(p01 % 18446744073709551616) = p01:=by omega
 have n4:(p11 % 18446744073709551616) = p11:=by omega
 simp only [n1,n2,n3,n4]
 rw [Int.emod_eq_of_lt k1 k2,m32 _ k1 k2]
 congr 2 <;> omega
theorem word_Mul.calls (a0 a1 a2 a3 r1 r2:Int) (w:World) (h:word_Mul.f a0 a1 a2 a3 = some (r1,r2)) :
  Calls Try.prog 48 #[.int .u64 a0,.int .u64 a1,.int .u64 a2,.int .u64 a3] w fun e w' => e = .returned (.tuple #[.int .u64 r1,.int .u64 r2])∧Drawn0 w w':=by
 unfold word_Mul.f at h
 split at h
 ·
  rename_i hc
  obtain ⟨⟨⟨h0,h0'⟩,h1,h1'⟩,⟨h2,h2'⟩,h3,h3'⟩:=hc
  simp only [Option.some.injEq,Prod.mk.injEq] at h
  have hm:=mul64_val a0 a1 h0 h0' h1 h1'
  have p0:0≤a0 * a1:=Int.mul_nonneg h0 h1
  have p1:a0 * a1≤340282366920938463426481119284349108225:=Int.le_trans (Int.mul_le_mul (show a0≤18446744073709551615 by omega) (show a1≤18446744073709551615 by omega) h1 (by decide)) (by decide)
  generalize a0 * a1 = P at *
  have q0:0≤P / 18446744073709551616:=by omega
  have q1:0≤P % 18446744073709551616:=by omega
  have q2:P % 18446744073709551616 < 18446744073709551616:=by omega
  have q3:P / 18446744073709551616≤18446744073709551614:=by omega
  have q4:P = P / 18446744073709551616 * 18446744073709551616 + P % 18446744073709551616:=by omega
  generalize P / 18446744073709551616 = hi at *
  generalize P % 18446744073709551616 = lo at *
  have s0:0≤(lo + a2) % 18446744073709551616:=by omega
  obtain ⟨e1,e2⟩:=h
  have er1:(hi + (lo + a2) / 18446744073709551616 + ((lo + a2) % 18446744073709551616 + a3) / 18446744073709551616) % 18446744073709551616 = r1:=by omega
  have er2:(lo + a2 + a3) % 18446744073709551616 = r2:=by omega
  have E1:=Lib.hid er1
  have E2:=Lib.hid er2
  clear e1 e2 er1 er2
  have HM:=Lib.hid hm
  have H4:=Lib.hid q4
  clear hm q4
  go_enter Try.func48,Try.ntmps48
  go_wp2_with (first | (go_at_call 86;refine (bits_Mul64.calls a0 a1 hi lo _ HM.out).mono ?_;rintro e w' ⟨rfl,⟨n,rfl⟩⟩) | simp only [w_add64_0 lo a2 q1 h2] | simp only [w_add64_0 _ a3 s0 h3])
  go_ret2
  exact ⟨ret_two E1.out E2.out,by first | exact Drawn0.refl _ | (exact (Drawn0.refl _).step _)⟩
 ·
  exact absurd h (by simp)
end Go.Proofs.Ytalfniohakahlaa.X
end
