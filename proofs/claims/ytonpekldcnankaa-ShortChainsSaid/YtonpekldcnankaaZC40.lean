/- Texts of the walk and of the plain laws, laid together by a program: Ak. -/
import Derived.Test.YtonpekldcnankaaZC19
namespace Go.Proofs.Ytonpekldcnankaa.X
open Go.RowKit Go.Proofs.YtonpekldcnankaaW.PrintWords Go.Proofs.YtonpekldcnankaaW.PrintLast Go.Proofs.YtonpekldcnankaaW.PrintMore
set_option linter.unusedVariables false
set_option linter.unusedSimpArgs false
theorem ak_lit {W:World} {g:Nat} {t:TypeId} {x:Int} (h:W.heap[g]? = some (.cells #[.int .u64 x] t (0,0))):Kd.C (Kd.int .u64) W (some ⟨g,0,none⟩) 1 [x]:=by
  refine ⟨rfl,by decide,fun _ => ⟨_,rfl,fun j p hj => ?_⟩⟩
  match j,hj with
  | 0,hj =>
    obtain rfl:x = p:=by simpa using hj
    refine ⟨[.int .u64 x],rfl,rfl,fun i u hi => ?_⟩
    match i,hi with
    | 0,hi =>
      obtain rfl:Value.int .u64 x = u:=by simpa using hi
      exact (blk_cell h 0).trans rfl
    | i + 1,hi => exact absurd hi (by simp)
  | j + 1,hj => exact absurd hj (by simp)
def AkM (A0:Option Addr) (c0:Nat) (A2:Option Addr) (c2:Nat) (x y:Int) (W:World):Prop:=Kd.C (Kd.int .u64) W A0 1 [x]∧1≤c0∧Kd.C (Kd.int .u64) W A2 1 [y]∧1≤c2
theorem AkM.below {A0:Option Addr} {c0:Nat} {A2:Option Addr} {c2:Nat} {x y:Int} {W W':World} (h:AkM A0 c0 A2 c2 x y W) (hb:Below W.heap.size W W'):AkM A0 c0 A2 c2 x y W':=⟨Kd.C_below h.1 hb,h.2.1,Kd.C_below h.2.2.1 hb,h.2.2.2⟩
theorem ak_setup {k:Nat} {x K y:Int} (hS:sconceref06_Setup.f k [x] = some ([x],K,[y],0)) {W:World} {g:Nat} {t:TypeId} (hg:W.heap[g]? = some (.cells #[.int .u64 x] t (0,0))) :
    Calls Try.prog 62 #[.slice (some ⟨g,0,none⟩) 1 1] W fun e w' => ∃ A0 c0 A2 c2,e = .returned (.tuple #[.agg #[.slice A0 1 c0,.int .u64 K,.slice A2 1 c2],.int .i64 0])∧AkM A0 c0 A2 c2 x y w'∧Below W.heap.size W w':=by
  refine (sconceref06_Setup.calls k (some ⟨g,0,none⟩) 1 [x] [x] K [y] 0 W (ak_lit hg) (Nat.le_refl _) hS).mono ?_
  rintro e w' ⟨v0,v2,rfl,h0,h2,hb⟩
  obtain ⟨A0,c0,e0⟩:=Kd.R_slice h0
  obtain ⟨A2,c2,e2⟩:=Kd.R_slice h2
  subst e0 e2
  exact ⟨A0,c0,A2,c2,rfl,⟨(Kd.R_reads' h0).2.2,(Kd.R_reads' h0).2.1,(Kd.R_reads' h2).2.2,(Kd.R_reads' h2).2.1⟩,hb⟩
theorem ak_box {w w4 w5:World} {v0 v1 v2:Value} {t:TypeId} (hB:Below w.heap.size w w4) (hb:Below w4.heap.size w4 w5) (hx:w5.heap[w4.heap.size]? = some (.cells #[.slice none 0 0,.int .u64 0,.slice none 0 0] t (0,0))) {W:World}
    (hW:W = ((w5.setCell ⟨w4.heap.size,0,none⟩ v0).setCell ⟨w4.heap.size,1,none⟩ v1).setCell ⟨w4.heap.size,2,none⟩ v2):W.heap[w4.heap.size]? = some (.cells #[v0,v1,v2] t (0,0))∧Below w4.heap.size w4 W∧Below w.heap.size w W:=by
  rw [hW]
  have h1:=below_set (j:=2) (v:=v2) (below_set (j:=1) (v:=v1) (below_set (j:=0) (v:=v0) hb (Nat.le_refl _)) (Nat.le_refl _)) (Nat.le_refl _)
  exact ⟨blk_put (blk_put (blk_put hx 0 _ rfl) 1 _ rfl) 2 _ rfl,h1,below_then hB hB.size h1⟩
theorem ak_one {W:World} {base:Nat} {v:Value} {x:Int} {ok:Nat→Prop} (h:Kd.R (Kd.int .u64) 24 W base ok v [x]):∃ ad c,v = .slice (some ad) 1 c∧W.cell? ad = some (.int .u64 x):=by
  obtain ⟨A,c,e⟩:=Kd.R_slice h
  subst e
  obtain ⟨ad,hA,hx⟩:=Kd.at_int (Kd.R_reads' h).2.2 ((0:Nat):Int) (by simp) (by simp)
  subst hA
  have h2:W.cell? (ad.add 0) = some (.int .u64 x):=by simpa [rd] using hx
  exact ⟨ad,c,rfl,h2⟩
end Go.Proofs.Ytonpekldcnankaa.X
