/- Texts of the walk and of the plain laws, laid together by a program: Lb. -/
import Derived.Test.YtonpekldcnankaaZL1
import Derived.Test.YtonpekldcnankaaZL2
namespace Go.Proofs.Ytonpekldcnankaa.X
open Go.RowKit Go.Proofs.YtonpekldcnankaaW.PrintWords Go.Proofs.YtonpekldcnankaaW.PrintLast Go.Proofs.YtonpekldcnankaaW.PrintMore
theorem R_makec {P:Program} {ops:Array Oper} {rest:List Oper} {o:Oper} {a:Act} {Q:Exit→Act→World→Prop} (k:IntKind) {w0 W:World} (base e:Nat) (hgd:o.guard = none) {N:Tmp} (_hd:o.dst = some N) (t:TypeId) (x y:Operand) (ho:o.op = .makeSlice t x y) (n c:Int) (hx:a.eval x = .int .i64 n) (hy:a.eval y = .int .i64 c)
    (ht:P.underlying t = some (.slice e)) (bytes:Nat) (hinfo:(P.info? e).map (fun i => (i.zero,i.size,i.bytes)) = some (some (.int k 0),1,bytes)) (hb0:0 < bytes)
    {ok:Nat→Prop} (hfresh:ok W.heap.size) (h0:0≤n) (hnc:n≤c) (hl:c.toNat * bytes≤281474976710656) (HB:Below base w0 W) (hbase:base≤W.heap.size)
    (h:∀ v1 w1,(Kd.int k).R e w1 base ok v1 (List.replicate n.toNat 0)→Below base w0 w1→W.grownBy w1 none→(∃ b,v1.ownBlock = some b∧W.heap.size≤b)→wpList P ops Q rest (a.put o.dst v1) w1):wpList P ops Q (o :: rest) a W:=by
  obtain ⟨m,rfl⟩:=Int.eq_ofNat_of_zero_le h0
  obtain ⟨q,rfl⟩:=Int.eq_ofNat_of_zero_le (Int.le_trans h0 hnc)
  simp only [Int.toNat_natCast] at hl h
  obtain ⟨i0,hi,hzz⟩:=Option.map_eq_some_iff.1 hinfo
  simp only [Prod.mk.injEq] at hzz
  obtain ⟨hz0,hz1,hz2⟩:=hzz
  have hm:q≤281474976710656:=Nat.le_trans (Nat.le_mul_of_pos_right _ hb0) hl
  have hr:=run_make (P:=P) W t e i0 _ ht hi hz0 .i64 .i64 (m:Int) (q:Int) (by omega) (by omega)
    (by
      have h3:((i0.bytes * q:Nat):Int)≤281474976710656:=by rw [hz2,Nat.mul_comm];omega
      rwa [Int.natCast_mul] at h3) (by omega)
  simp only [Int.toNat_natCast] at hr
  rw [hz1] at hr
  refine Kd.event_run hgd (v:=.slice (some ⟨W.heap.size,0,none⟩) m q) (w1:=W.alloc (.cells (madeCells (Value.int k 0).cells (q * 1)) e)) (by simp [execOp,ho,hx,hy,hr]) (h _ _ ?_ (HB.alloc hbase _) (World.grownBy_alloc W _ none) ⟨W.heap.size,by simp [Value.ownBlock],Nat.le_refl _⟩)
  refine Kd.R_of_own (enc:=Value.int k) (h1:=fun _ => rfl) ?_ (fun k' hk => by
    have:W.heap.size = k':=by simpa [Value.ownBlock] using hk
    exact this ▸ hfresh)
  refine ⟨by simp [encs],.inr ⟨W.heap.size,q,madeCells (Value.int k 0).cells (q * 1),by simp,hbase,heap_alloc_new W _,by simp;omega,by unfold maxLen;omega,by simp [madeCells],?_⟩⟩
  apply List.ext_getElem
  · simp [encs,madeCells];omega
  · intro i h1 h2
    simp [encs,madeCells,Value.cells,Nat.mod_one]
def Upd (w w':World) (b:Nat) (u:Value) (t:TypeId):Prop:=w.grownBy w' (some b)∧w'.heap[b]? = some (.cells #[u] t (0,0))
theorem grown_drewN {a w:World} {row:Option Nat} (h:a.grownBy w row) (n:Nat):a.grownBy (w.drewN n) row:=⟨h.os,h.tape,h.output,h.size,h.block⟩
theorem Upd.put {w:World} {b:Nat} {v:Value} {t:TypeId} (hb:w.heap[b]? = some (.cells #[v] t (0,0))) (n:Nat) (u:Value):Upd w ((w.drewN n).setCell ⟨b,0,none⟩ u) b u t:=by
  refine ⟨?_,one_setCell (w:=w.drewN n) hb⟩
  have h:=grown_drewN (World.grownBy.refl w (some b)) n
  exact ⟨h.os,h.tape,h.output,by have hs:=h.size;simp [World.setCell],fun i hi hne => (Below.heap_setCell (w.drewN n) ⟨b,0,none⟩ u i (fun e => hne (by rw [e]))).trans (h.block i hi hne)⟩
theorem Upd.same {w:World} {b:Nat} {v:Value} {t:TypeId} (hb:w.heap[b]? = some (.cells #[v] t (0,0))) (n:Nat):Upd w (w.drewN n) b v t:=⟨grown_drewN (World.grownBy.refl w _) n,hb⟩
theorem Upd.at_ {w w':World} {b:Nat} {u:Value} {t:TypeId} (h:Upd w w' b u t):w'.heap[b]? = some (.cells #[u] t (0,0)):=h.2
theorem Upd.far {w w':World} {b g:Nat} {u:Value} {t:TypeId} {o:Obj} (h:Upd w w' b u t) (hg:w.heap[g]? = some o) (hne:g≠b):w'.heap[g]? = some o:=(h.1.block g (blk_lt hg) (fun e => hne (Option.some.inj e))).trans hg
theorem Upd.below {w0 w w':World} {b:Nat} {u:Value} {t:TypeId} (h:Upd w w' b u t) (hB:Below w0.heap.size w0 w) (hb:w0.heap.size≤b):Below w0.heap.size w0 w':=pw_below_grown hB (some b) hB.size h.1 (fun k hk => by cases hk;exact hb)
theorem Upd.row {w w':World} {b e base:Nat} {u v:Value} {t:TypeId} {k:IntKind} {ok:Nat→Prop} {xs:List Int} (h:Upd w w' b u t) (hr:Kd.R (Kd.int k) e w base ok v xs) (hok:∀ k,ok k→k≠b):Kd.R (Kd.int k) e w' base ok v xs:=Kd.R_grown hr h.1 (fun k hk e => hok k hk (Option.some.inj e))
theorem two_boxes (w:World) (nd:Nat) (a b u:Value) (t:TypeId) :
    ((((w.drewN nd).alloc (.cells #[a] t)).setCell ⟨w.heap.size,0,none⟩ u).alloc (.cells #[b] t)).heap[w.heap.size]? = some (.cells #[u] t (0,0)) ∧
    ((((w.drewN nd).alloc (.cells #[a] t)).setCell ⟨w.heap.size,0,none⟩ u).alloc (.cells #[b] t)).heap[w.heap.size + 1]? = some (.cells #[b] t (0,0)) ∧
    Below w.heap.size w ((((w.drewN nd).alloc (.cells #[a] t)).setCell ⟨w.heap.size,0,none⟩ u).alloc (.cells #[b] t)):=by
  have h1:((w.drewN nd).alloc (.cells #[a] t)).heap[w.heap.size]? = some (.cells #[a] t (0,0)):=heap_alloc_new (w.drewN nd) _
  have h2:=one_setCell (u:=u) h1
  have hs:(((w.drewN nd).alloc (.cells #[a] t)).setCell ⟨w.heap.size,0,none⟩ u).heap.size = w.heap.size + 1:=by simp [World.setCell]
  refine ⟨?_,?_,?_⟩
  · exact (Below.heap_alloc _ _ _ (by rw [hs];omega)).trans h2
  · rw [← hs];exact heap_alloc_new _ _
  · exact ((((pw_below_drewN (Below.refl _ _) nd).alloc (by simp) _).setCell (by simp) _).alloc (by rw [hs];omega) _)
theorem one_box (w:World) (nd:Nat) (a:Value) (t:TypeId) :
    ((w.drewN nd).alloc (.cells #[a] t)).heap[w.heap.size]? = some (.cells #[a] t (0,0))∧Below w.heap.size w ((w.drewN nd).alloc (.cells #[a] t)) :=
  ⟨heap_alloc_new (w.drewN nd) _,(pw_below_drewN (Below.refl _ _) nd).alloc (by simp) _⟩
theorem C_piece {k:IntKind} {e base g L cap:Nat} {ok:Nat→Prop} {w:World} {xs:List Int} (h:Kd.R (Kd.int k) e w base ok (.slice (some ⟨g,0,none⟩) L cap) xs) (j n:Nat) (hjn:j + n≤L) (hm:n≤9223372036854775807) :
    Kd.C (Kd.int k) w (some ⟨g,j,none⟩) n ((xs.drop j).take n):=by
  obtain ⟨hL,_⟩:=Kd.R_reads' h
  refine Kd.C_of_reads (h1:=fun _ => rfl) (d:=(0:Int)) ⟨by rw [List.length_take,List.length_drop];omega,hm,fun hp => ⟨_,rfl,fun i hi => ?_⟩⟩
  have h1:=(Kd.R_celln 0 h ((j + i:Nat):Int) (by omega) (by omega)).1
  rw [Int.toNat_natCast] at h1
  have e1:(⟨g,j,none⟩:Addr).add i = ⟨g,j + i,none⟩:=by unfold Addr.add;split <;> simp_all
  rw [e1,h1]
  have e2:(((j + i:Nat):Int)).toNat = j + i:=Int.toNat_natCast _
  unfold rdOf
  rw [e2]
  simp [List.getD_eq_getElem?_getD,hi]
theorem cut_piece {P:Program} (t e:TypeId) {i:TypeInfo} (ht:P.underlying t = some (.slice e)) (hi:P.info? e = some i) (hsz:i.size = 1) (g n c j m:Nat) (hjm:j + m≤n) (hm:0 < m) (hc:n≤c) :
    ∀ W:World,(Instr.slice t (.slice (some ⟨g,0,none⟩) n c) (some (.int .i64 (j:Int))) (some (.int .i64 ((j + m:Nat):Int))) none).run P W = .ok (.slice (some ⟨g,j,none⟩) m (c - j)) W:=by
  intro W
  have h:=cut_mid (P:=P) t e .i64 .i64 ht hi 1 hsz (some ⟨g,0,none⟩) n c (j:Int) ((j + m:Nat):Int) (by omega) (by omega) (by omega) hc W
  rw [Int.toNat_natCast,Int.toNat_natCast,if_neg (by omega)] at h
  rw [h]
  simp [Addr.add]
  omega
theorem grown_then {w w1 w2:World} {row:Option Nat} (h:w.grownBy w1 row) (h2:w1.grownBy w2 row):w.grownBy w2 row:=by
  exact ⟨h2.os.trans h.os,h2.tape.trans h.tape,h2.output.trans h.output,Nat.le_trans h.size h2.size,fun i hi hne => (h2.block i (Nat.lt_of_lt_of_le hi h.size) hne).trans (h.block i hi hne)⟩
theorem ret_two {k1 k2:IntKind} {a b a' b':Int} (h:a = a') (h':b = b'):Ending.returned (.tuple #[.int k1 a,.int k2 b]) = .returned (.tuple #[.int k1 a',.int k2 b']):=by rw [h,h']
end Go.Proofs.Ytonpekldcnankaa.X
