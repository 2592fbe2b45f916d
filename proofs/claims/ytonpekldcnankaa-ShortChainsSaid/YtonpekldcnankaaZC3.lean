/- Texts of the walk and of the plain laws, laid together by a program: Lb, Rng. -/
import Derived.Laws.BitsAllLaws
import Derived.Laws.Externs
import Derived.Lib.Hide
import Derived.RangeFuncCalls
import Derived.RangeFuncFrom
import Derived.RangeFuncLeaves
import Derived.Shelf.Spec.BitsCarry
import Derived.Test.YtonpekldcnankaaProg
import Derived.WalkSmall
import Derived.Test.YtonpekldcnankaaZC1
import Derived.Test.YtonpekldcnankaaZC2
section
namespace Go.Proofs.Ytonpekldcnankaa.X
open Go.RowKit Go.Proofs.YtonpekldcnankaaW.PrintWords Go.Proofs.YtonpekldcnankaaW.PrintLast Go.Proofs.YtonpekldcnankaaW.PrintMore
theorem R_makec {P:Program} {ops:Array Oper} {rest:List Oper} {o:Oper} {a:Act} {Q:Exit→Act→World→Prop} (k:IntKind) {w0 W:World} (base e:Nat) (hgd:o.guard = none) {N:Tmp} (_hd:o.dst = some N) (t:TypeId) (x y:Operand) (ho:o.op = .makeSlice t x y) (n c:Int) (hx:a.eval x = .int .i64 n) (hy:a.eval y = .int .i64 c)
    (ht:P.underlying t = some (.slice e)) (bytes:Nat) (hinfo:(P.info? e).map (fun i => (i.zero,i.size,i.bytes)) = some (some (.int k 0),1,bytes)) (hb0:0 < bytes)
    {ok:Nat→Prop} (hfresh:ok W.heap.size) (h0:0≤n) (hnc:n≤c) (hl:c.toNat * bytes≤281474976710656) (HB:Below base w0 W) (hbase:base≤W.heap.size)
    (h:∀ v1 w1,(Kd.int k).R e w1 base ok v1 (List.replicate n.toNat 0)→Below base w0 w1→W.grownBy w1 none→(∃ b,v1.ownBlock = some b∧W.heap.size≤b)→wpList P ops Q rest (a.put o.dst v1) w1):wpList P ops Q (o :: rest) a W:=by
  obtain ⟨m,rfl⟩:=Int.eq_ofNat_of_zero_le h0
  obtain ⟨q,rfl⟩:=Int.eq_ofNat_of_zero_le (Int.le_trans h0 hnc)
  simp only [Int.toNat_natCast] at hl h
  obtain ⟨i0,hi,hzz⟩:=Option.map_eq_some_iff.1 hinfo
  simp only [Prod.mk.injEq] at hzz
  obtain ⟨hz0,hz1,hz2⟩:=hzz
  have hm:q≤281474976710656:=Nat.le_trans (Nat.le_mul_of_pos_right _ hb0) hl
  have hr:=run_make (P:=P) W t e i0 _ ht hi hz0 .i64 .i64 (m:Int) (q:Int) (by omega) (by omega)
    (by
      have h3:((i0.bytes * q:Nat):Int)≤281474976710656:=by rw [hz2,Nat.mul_comm];omega
      rwa [Int.natCast_mul] at h3) (by omega)
  simp only [Int.toNat_natCast] at hr
  rw [hz1] at hr
  refine Kd.event_run hgd (v:=.slice (some ⟨W.heap.size,0,none⟩) m q) (w1:=W.alloc (.cells (madeCells (Value.int k 0).cells (q * 1)) e)) (by simp [execOp,ho,hx,hy,hr]) (h _ _ ?_ (HB.alloc hbase _) (World.grownBy_alloc W _ none) ⟨W.heap.size,by simp [Value.ownBlock],Nat.le_refl _⟩)
  refine Kd.R_of_own (enc:=Value.int k) (h1:=fun _ => rfl) ?_ (fun k' hk => by
    have:W.heap.size = k':=by simpa [Value.ownBlock] using hk
    exact this ▸ hfresh)
  refine ⟨by simp [encs],.inr ⟨W.heap.size,q,madeCells (Value.int k 0).cells (q * 1),by simp,hbase,heap_alloc_new W _,by simp;omega,by unfold maxLen;omega,by simp [madeCells],?_⟩⟩
  apply List.ext_getElem
  · simp [encs,madeCells];omega
  · intro i h1 h2
    simp [encs,madeCells,Value.cells,Nat.mod_one]
def Upd (w w':World) (b:Nat) (u:Value) (t:TypeId):Prop:=w.grownBy w' (some b)∧w'.heap[b]? = some (.cells #[u] t (0,0))
theorem grown_drewN {a w:World} {row:Option Nat} (h:a.grownBy w row) (n:Nat):a.grownBy (w.drewN n) row:=⟨h.os,h.tape,h.output,h.size,h.block⟩
theorem Upd.put {w:World} {b:Nat} {v:Value} {t:TypeId} (hb:w.heap[b]? = some (.cells #[v] t (0,0))) (n:Nat) (u:Value):Upd w ((w.drewN n).setCell ⟨b,0,none⟩ u) b u t:=by
  refine ⟨?_,one_setCell (w:=w.drewN n) hb⟩
  have h:=grown_drewN (World.grownBy.refl w (some b)) n
  exact ⟨h.os,h.tape,h.output,by have hs:=h.size;simp [World.setCell],fun i hi hne => (Below.heap_setCell (w.drewN n) ⟨b,0,none⟩ u i (fun e => hne (by rw [e]))).trans (h.block i hi hne)⟩
theorem Upd.same {w:World} {b:Nat} {v:Value} {t:TypeId} (hb:w.heap[b]? = some (.cells #[v] t (0,0))) (n:Nat):Upd w (w.drewN n) b v t:=⟨grown_drewN (World.grownBy.refl w _) n,hb⟩
theorem Upd.at_ {w w':World} {b:Nat} {u:Value} {t:TypeId} (h:Upd w w' b u t):w'.heap[b]? = some (.cells #[u] t (0,0)):=h.2
theorem Upd.far {w w':World} {b g:Nat} {u:Value} {t:TypeId} {o:Obj} (h:Upd w w' b u t) (hg:w.heap[g]? = some o) (hne:g≠b):w'.heap[g]? = some o:=(h.1.block g (blk_lt hg) (fun e => hne (Option.some.inj e))).trans hg
theorem Upd.below {w0 w w':World} {b:Nat} {u:Value} {t:TypeId} (h:Upd w w' b u t) (hB:Below w0.heap.size w0 w) (hb:w0.heap.size≤b):Below w0.heap.size w0 w':=pw_below_grown hB (some b) hB.size h.1 (fun k hk => by cases hk;exact hb)
theorem Upd.row {w w':World} {b e base:Nat} {u v:Value} {t:TypeId} {k:IntKind} {ok:Nat→Prop} {xs:List Int} (h:Upd w w' b u t) (hr:Kd.R (Kd.int k) e w base ok v xs) (hok:∀ k,ok k→k≠b):Kd.R (Kd.int k) e w' base ok v xs:=Kd.R_grown hr h.1 (fun k hk e => hok k hk (Option.some.inj e))
theorem two_boxes (w:World) (nd:Nat) (a b u:Value) (t:TypeId) :
    ((((w.drewN nd).alloc (.cells #[a] t)).setCell ⟨w.heap.size,0,none⟩ u).alloc (.cells #[b] t)).heap[w.heap.size]? = some (.cells #[u] t (0,0)) ∧
    ((((w.drewN nd).alloc (.cells #[a] t)).setCell ⟨w.heap.size,0,none⟩ u).alloc (.cells #[b] t)).heap[w.heap.size + 1]? = some (.cells #[b] t (0,0)) ∧
    Below w.heap.size w ((((w.drewN nd).alloc (.cells #[a] t)).setCell ⟨w.heap.size,0,none⟩ u).alloc (.cells #[b] t)):=by
  have h1:((w.drewN nd).alloc (.cells #[a] t)).heap[w.heap.size]? = some (.cells #[a] t (0,0)):=heap_alloc_new (w.drewN nd) _
  have h2:=one_setCell (u:=u) h1
  have hs:(((w.drewN nd).alloc (.cells #[a] t)).setCell ⟨w.heap.size,0,none⟩ u).heap.size = w.heap.size + 1:=by simp [World.setCell]
  refine ⟨?_,?_,?_⟩
  · exact (Below.heap_alloc _ _ _ (by rw [hs];omega)).trans h2
  · rw [← hs];exact heap_alloc_new _ _
  · exact ((((pw_below_drewN (Below.refl _ _) nd).alloc (by simp) _).setCell (by simp) _).alloc (by rw [hs];omega) _)
theorem one_box (w:World) (nd:Nat) (a:Value) (t:TypeId) :
    ((w.drewN nd).alloc (.cells #[a] t)).heap[w.heap.size]? = some (.cells #[a] t (0,0))∧Below w.heap.size w ((w.drewN nd).alloc (.cells #[a] t)) :=
  ⟨heap_alloc_new (w.drewN nd) _,(pw_below_drewN (Below.refl _ _) nd).alloc (by simp) _⟩
theorem C_piece {k:IntKind} {e base g L cap:Nat} {ok:Nat→Prop} {w:World} {xs:List Int} (h:Kd.R (Kd.int k) e w base ok (.slice (some ⟨g,0,none⟩) L cap) xs) (j n:Nat) (hjn:j + n≤L) (hm:n≤9223372036854775807) :
    Kd.C (Kd.int k) w (some ⟨g,j,none⟩) n ((xs.drop j).take n):=by
  obtain ⟨hL,_⟩:=Kd.R_reads' h
  refine Kd.C_of_reads (h1:=fun _ => rfl) (d:=(0:Int)) ⟨by rw [List.length_take,List.length_drop];omega,hm,fun hp => ⟨_,rfl,fun i hi => ?_⟩⟩
  have h1:=(Kd.R_celln 0 h ((j + i:Nat):Int) (by omega) (by omega)).1
  rw [Int.toNat_natCast] at h1
  have e1:(⟨g,j,none⟩:Addr).add i = ⟨g,j + i,none⟩:=by unfold Addr.add;split <;> simp_all
  rw [e1,h1]
  have e2:(((j + i:Nat):Int)).toNat = j + i:=Int.toNat_natCast _
  unfold rdOf
  rw [e2]
  simp [List.getD_eq_getElem?_getD,hi]
theorem cut_piece {P:Program} (t e:TypeId) {i:TypeInfo} (ht:P.underlying t = some (.slice e)) (hi:P.info? e = some i) (hsz:i.size = 1) (g n c j m:Nat) (hjm:j + m≤n) (hm:0 < m) (hc:n≤c) :
    ∀ W:World,(Instr.slice t (.slice (some ⟨g,0,none⟩) n c) (some (.int .i64 (j:Int))) (some (.int .i64 ((j + m:Nat):Int))) none).run P W = .ok (.slice (some ⟨g,j,none⟩) m (c - j)) W:=by
  intro W
  have h:=cut_mid (P:=P) t e .i64 .i64 ht hi 1 hsz (some ⟨g,0,none⟩) n c (j:Int) ((j + m:Nat):Int) (by omega) (by omega) (by omega) hc W
  rw [Int.toNat_natCast,Int.toNat_natCast,if_neg (by omega)] at h
  rw [h]
  simp [Addr.add]
  omega
theorem grown_then {w w1 w2:World} {row:Option Nat} (h:w.grownBy w1 row) (h2:w1.grownBy w2 row):w.grownBy w2 row:=by
  exact ⟨h2.os.trans h.os,h2.tape.trans h.tape,h2.output.trans h.output,Nat.le_trans h.size h2.size,fun i hi hne => (h2.block i (Nat.lt_of_lt_of_le hi h.size) hne).trans (h.block i hi hne)⟩
theorem ret_two {k1 k2:IntKind} {a b a' b':Int} (h:a = a') (h':b = b'):Ending.returned (.tuple #[.int k1 a,.int k2 b]) = .returned (.tuple #[.int k1 a',.int k2 b']):=by rw [h,h']
end Go.Proofs.Ytonpekldcnankaa.X
end
section
namespace Go.Proofs.Ytonpekldcnankaa.X
open Go Go.RowKit Go.Proofs.YtonpekldcnankaaW.PrintWords Go.Proofs.YtonpekldcnankaaW.PrintLast Go.Proofs.YtonpekldcnankaaW.PrintMore
set_option linter.unusedVariables false
set_option linter.unusedSimpArgs false
def KpY (n₀ g:Nat) (A B:World):Prop:=Below 0 A B∧∀ k,k < n₀→k≠g→B.heap[k]? = A.heap[k]?
theorem KpY.refl (n₀ g:Nat) (A:World):KpY n₀ g A A:=⟨Below.refl _ _,fun _ _ _ => rfl⟩
theorem KpY.trans {n₀ g:Nat} {A B C:World} (h:KpY n₀ g A B) (k:KpY n₀ g B C):KpY n₀ g A C:=⟨h.1.trans k.1,fun i h1 h2 => (k.2 i h1 h2).trans (h.2 i h1 h2)⟩
theorem KpY.of {n₀ g:Nat} {A B:World} (h:Below n₀ A B):KpY n₀ g A B:=⟨h.mono (Nat.zero_le _),fun i h1 _ => h.block i h1⟩
theorem KpY.drewN {n₀ g:Nat} {A B:World} (h:KpY n₀ g A B) (m:Nat):KpY n₀ g A (World.drewN B m):=h.trans (KpY.of (pw_below_drewN (Below.refl _ _) m))
theorem KpY.below {n₀ g n₁:Nat} {A B:World} (h:KpY n₀ g A B) (h1:n₁≤n₀) (hg:n₁≤g) {w:World} (hw:Below n₁ w A):Below n₁ w B:=by
  have h0:Below 0 w B:=(hw.mono (Nat.zero_le _)).trans h.1
  exact { h0 with block:=fun k hk => (h.2 k (by omega) (by omega)).trans (hw.block k hk) }
def SeqD {α:Type} (P:Program) (g:Nat) (lb:Array Value) (encs:α→Array Value) (n₀ g₀:Nat) (xs:List α) (w0:World):Prop :=
  ∀ (l:Nat) (J:List α→World→Prop) (W:World),KpY n₀ g₀ w0 W→(∀ s W m,J s W→J s (World.drewN W m)) →
    (∀ pre x W1,J pre W1→(pre ++ [x]) <+: xs→YieldAt Fence.wide 0 P l (encs x) W1 fun e W' => e = .returned (.bool true)∧J (pre ++ [x]) W'∧KpY n₀ g₀ W1 W') →
    J [] W→CallsIn Fence.wide 1 P g (#[.func (.yield l) #[] #[]] ++ lb) W fun e W' => (∃ v,e = .returned v)∧J xs W'
def bodyD (Kp:World→World→Prop) (I:World→Prop) (W:World):Exit→Act→World→Prop
  | .normal,_,W' => KeepsOthers W W'∧Kp W W'∧I W'
  | _,_,_ => False
theorem wp_rangeD {α:Type} {P:Program} {g:Operand} {ps:Array Tmp} {assign body:Code} {Q:Exit→Act→World→Prop} {a:Act} {w:World} {gf:Nat} {lb:Array Value}
    (hg:a.eval g = .func (.func gf) #[] lb) (eg:∀ args w,(callFunc gf args).run P w = .ok (.enter gf args) w) {encs:α→Array Value} {n₀ g₀:Nat} {xs:List α} {w0:World}
    (hseq:SeqD P gf lb encs n₀ g₀ xs w0) (hn:n₀≤w.heap.size) (hb0:KpY n₀ g₀ w0 w) (hps:∀ x,(encs x).size = ps.size)
    (I:List α→World→Prop) (hI:OwnFrom w.heap.size I) (hId:∀ s W m,I s W→I s (World.drewN W m)) (h0:I [] w) (a₁:α→Act)
    (hassign:∀ (l:Nat) (x:α) (W:World) (K:Act→World→Prop),K (a₁ x) W→assign.wpIn (Fence.wide.inRound l) 0 P (Exit.then K (fun _ _ _ => False)) { tmps:=(ps.zip (encs x)).foldl (fun t (p,v) => t.setIfInBounds p v) a.tmps,defers:=[] } W)
    (hbody:∀ (l:Nat) (pre:List α) (x:α) (W:World),I pre W→(pre ++ [x]) <+: xs→body.wpIn (Fence.wide.inRound l) 0 P (bodyD (KpY n₀ g₀) (I (pre ++ [x])) W) (a₁ x) W)
    (hdone:∀ (D:Nat) (W:World),w.heap.size≤D→I xs W→W.heap[D]? = some (.deferred (some []))→Q .normal { a with defers:={ target:=.collected D,args:=#[] } :: a.defers } W) :
    (Code.rangeFunc g ps assign body).wpIn Fence.wide 2 P Q a w:=by
  have keep:∀ (W:World) (l:Nat) (o o':Obj),w.heap.size≤l→W.heap[l]? = some o→KpY n₀ g₀ W (W.putObj l o'):=fun W l o o' hl h =>
    KpY.of ((Below.refl n₀ W).grown (grownBy_putObj' W l o') (by have:=(Array.getElem?_eq_some_iff.1 h).1;omega) (fun k e => by cases e;omega))
  refine wpIn_rangeFunc fun fn hfn => ?_
  let rec0:LoopState→Option Code→Loop:=fun st pe => { state:=st,pending:=pe,fn,tmps:=a.tmps,params:=ps,assign,body,defers:=w.heap.size }
  let L:Nat:=w.heap.size + 1
  obtain ⟨W1,hW1⟩:∃ W1,W1 = (w.alloc (.deferred (some []))).alloc (.loop (rec0 .ready none)):=⟨_,rfl⟩
  have hL1:W1.heap[L]? = some (.loop (rec0 .ready none)):=by
    rw [hW1]
    have:=World.alloc_heap_new (w.alloc (.deferred (some []))) (.loop (rec0 .ready none))
    rwa [World.size_alloc] at this
  have hK1:W1.heap[w.heap.size]? = some (.deferred (some [])):=by rw [hW1];exact (Below.heap_alloc _ _ _ (by simp)).trans (World.alloc_heap_new w _)
  have hb1:KpY n₀ g₀ w0 W1:=by
    rw [hW1]
    exact hb0.trans (KpY.of (((Below.refl n₀ w).alloc hn _).alloc (by simp;omega) _))
  have hI1:I [] W1:=by rw [hW1];exact hI.alloc _ (hI.alloc _ h0)
  refine ⟨L,[{ target:=.collected w.heap.size,args:=#[] }],W1,{ target:=.fn (.func gf) lb,args:=#[.func (.yield L) #[] #[]] },W1,gf,#[.func (.yield L) #[] #[]] ++ lb,W1,?_,?_,?_,?_,fun _ => by decide,?_⟩
  · rw [hW1]
    exact run_enterLoop_outer _ _ _ _ _
  · simp only [resolve,hg]
    simp [go_sem]
  · intro f' hf'
    exact trivial
  · simp [invoke,go_sem,eg]
  refine (hseq L (fun pre W => I pre W∧W.heap[L]? = some (.loop (rec0 .ready none))∧W.heap[w.heap.size]? = some (.deferred (some []))) W1 hb1 (fun s W m h => ⟨hId s W m h.1,h.2⟩) ?_ ⟨hI1,hL1,hK1⟩).mono ?_
  · rintro pre x W ⟨hi,hl,hk⟩ hpre
    have hlt:L < W.heap.size:=(Array.getElem?_eq_some_iff.1 hl).1
    have hne:w.heap.size≠L:=by show w.heap.size≠w.heap.size + 1;omega
    have hle:w.heap.size≤L:=by show w.heap.size≤w.heap.size + 1;omega
    have hy:=run_yield (P:=P) (args:=encs x) hl (hps x)
    refine ⟨fn,_,assign,body,hy,roundIn_of_wpIn hfn (hassign _ x W _ ⟨_,run_beginRound hl rfl,?_⟩)⟩
    obtain ⟨W2,hW2⟩:∃ W2,W2 = W.putObj L (.loop { rec0 .ready none with state:=.busy }):=⟨_,rfl⟩
    have hl2:W2.heap[L]? = some (.loop { rec0 .ready none with state:=.busy }):=by rw [hW2];exact World.putObj_heap_same hlt
    have hk2:W2.heap[w.heap.size]? = some (.deferred (some [])):=by rw [hW2];exact (World.putObj_heap_other hne).trans hk
    have hi2:I pre W2:=by rw [hW2];exact hI.putObj _ hi hle hl rfl
    have hw2:KpY n₀ g₀ W W2:=by rw [hW2];exact keep _ _ _ _ hle hl
    rw [← hW2]
    refine wpIn_mono (hbody _ pre x W2 hi2 hpre) ?_
    rintro e a3 W3 hp
    cases e with
    | normal =>
      obtain ⟨hk3,hkp3,hi3⟩:=hp
      have hl3:=hk3.same _ _ hl2 rfl
      have hr:=run_endRound (P:=P) none hl3
      refine ⟨_,_,hr,rfl,⟨hI.putObj _ hi3 hle hl3 rfl,World.putObj_heap_same (Array.getElem?_eq_some_iff.1 hl3).1,(World.putObj_heap_other hne).trans (hk3.same _ _ hk2 rfl)⟩,(hw2.trans hkp3).trans (keep _ _ _ _ hle hl3)⟩
    | ret => exact hp.elim
    | exit id => exact hp.elim
    | goto t => exact hp.elim
    | panic ch => exact hp.elim
    | outgrown => exact hp.elim
  · rintro e W2 ⟨⟨v,rfl⟩,hi,hl,hk⟩
    have hne:w.heap.size≠L:=by show w.heap.size≠w.heap.size + 1;omega
    have hle:w.heap.size≤L:=by show w.heap.size≤w.heap.size + 1;omega
    exact ⟨none,_,run_endLoop (P:=P) hl (by simp [rec0]),hdone _ _ (Nat.le_refl _) (hI.putObj _ hi hle hl rfl) ((World.putObj_heap_other hne).trans hk)⟩
theorem rng_C_cells {A:Option Addr} {n:Nat} {xs:List Int} {W W':World} (hc:∀ a k x,W.cell? a = some (.int k x)→W'.cell? a = some (.int k x)) (h:Kd.C (Kd.int .u64) W A n xs):Kd.C (Kd.int .u64) W' A n xs:=by
  obtain ⟨h1,h2,h3⟩:=h
  refine ⟨h1,h2,fun hp => ?_⟩
  obtain ⟨ad,hA,h4⟩:=h3 hp
  refine ⟨ad,hA,fun j p hj => ?_⟩
  obtain ⟨us,q1,q2,q3⟩:=h4 j p hj
  refine ⟨us,q1,q2,fun i u hi => ?_⟩
  have hu:us = [.int .u64 p]:=q2
  subst hu
  match i,hi with
  | 0,hi =>
    obtain rfl:Value.int .u64 p = u:=by simpa using hi
    exact hc _ _ _ (q3 0 _ hi)
  | i + 1,hi => exact absurd hi (by simp)
theorem rng_ne {W:World} {g:Nat} {A:Option Addr} {n c:Nat} {t:TypeId} (hg:W.heap[g]? = some (.cells #[.slice A n c] t (0,0))) {a:Addr} {k:IntKind} {x:Int} (h:W.cell? a = some (.int k x)):a.block≠g:=by
  intro e
  have h2:=h
  unfold World.cell? at h2
  rw [e,hg] at h2
  dsimp only at h2
  rcases a with ⟨b,off,pth⟩
  cases off with
  | zero => cases pth <;> simp at h2
  | succ o => cases pth <;> simp at h2
end Go.Proofs.Ytonpekldcnankaa.X
end
