/- Texts of the walk and of the plain laws, laid together by a program: Ak7, X21. -/
import Derived.Test.YtonpekldcnankaaZJ0
import Derived.Test.YtonpekldcnankaaZJ1
import Derived.Test.YtonpekldcnankaaZJ2
import Derived.Test.YtonpekldcnankaaZJ3
import Derived.Test.YtonpekldcnankaaZJ5
import Derived.Test.YtonpekldcnankaaZJ4
import Derived.Test.YtonpekldcnankaaZJ16
import Derived.Test.YtonpekldcnankaaZJ17
import Derived.Test.YtonpekldcnankaaZJ23
import Derived.Test.YtonpekldcnankaaZJ24
import Derived.Test.YtonpekldcnankaaZJ25
import Derived.Test.YtonpekldcnankaaZJ28
import Derived.Test.YtonpekldcnankaaZJ33
import Derived.Test.YtonpekldcnankaaZJ34
section
namespace Go.Proofs.Ytonpekldcnankaa.X
open Go.RowKit Go.Proofs.YtonpekldcnankaaW.PrintWords Go.Proofs.YtonpekldcnankaaW.PrintLast Go.Proofs.YtonpekldcnankaaW.PrintMore
set_option linter.unusedVariables false
set_option linter.unusedSimpArgs false
set_option maxHeartbeats 4000000 in
set_option maxRecDepth 100000 in
theorem awake7_walk (k:Nat) (K:Int) (w:World) (hS:sconceref06_Setup.f k [7] = some ([7],K,[4],0)) (hA:ring_Add.f k [7] K [4] [5] [4] = some ([2],0)) (hH:ring_Half.f k [7] K [4] [5] = some ([6],0)) :
    Calls Try.prog 16 #[] w fun e w' => e = .returned (.bool true)∧Below w.heap.size w w':=by
  have hu59:=Try.underlying26
  have HS:=Aside0.mk (ak_setup hS (blk_new w (Obj.cells #[.int .u64 7] 24)))
  have HB1:=Aside0.mk (below_alloc (Below.refl w.heap.size w) (Obj.cells #[.int .u64 7] 24))
  have HA:=Aside0.mk hA
  have HH:=Aside0.mk hH
  clear hS hA hH
  go_enter Try.func16,Try.ntmps16
  go_upto_region 2 with (first
    | (go_at_call 62;(with_reducible refine HS.out.mono ?_);rintro e w4 ⟨A0,c0,A2,c2,rfl,hm4,hb4⟩;have HM4:=Aside0.mk hm4;have HB4:=Aside0.mk (below_then HB1.out HB1.out.size hb4);clear hm4 hb4)
    | ((with_reducible refine gate_dst (N:=1) rfl ?_);refine box_event ?hg (N:=1) ?hd (cs:=#[.slice none 0 0,.int .u64 0,.slice none 0 0]) (t:=26) ?hr ?_;(case hd => rfl);(case hg => rfl);(case hr => first | (go_simp;done) | (go_simp;rfl));intro gb hgb w5 hbox hb;subst hgb;have HX:=Aside0.mk hbox;have HB5:=Aside0.mk hb;have z0:=(blk_cell hbox 0).trans rfl;have z1:=(blk_cell hbox 1).trans rfl;have z2:=(blk_cell hbox 2).trans rfl;have f0:=blk_frozen hbox 0;have f1:=blk_frozen hbox 1;have f2:=blk_frozen hbox 2;clear hbox hb))
  obtain ⟨wM,hwM⟩:∃ W:World,W = ((w5.setCell ⟨w4.heap.size,0,none⟩ (.slice A0 1 c0)).setCell ⟨w4.heap.size,1,none⟩ (.int .u64 K)).setCell ⟨w4.heap.size,2,none⟩ (.slice A2 1 c2):=⟨_,rfl⟩
  obtain ⟨hx,hb4,hb0⟩:=ak_box HB4.out HB5.out HX.out hwM
  rw [← hwM]
  have HM:=Aside0.mk (HM4.out.below hb4)
  have HZ:=Aside0.mk (fun (W:World) (hW:Below wM.heap.size wM W) => And.intro ((blk_cell (blk_below hx hW) 0).trans rfl) (And.intro ((blk_cell (blk_below hx hW) 1).trans rfl) ((blk_cell (blk_below hx hW) 2).trans rfl)))
  have HB:=Aside0.mk hb0
  clear z0 z1 z2 f0 f1 f2 hwM hx hb4 hb0 HX HB5 HB4 HM4 HB1 HS
  obtain ⟨z0,z1,z2⟩:=HZ.out _ (Below.refl _ _)
  obtain ⟨g1,g2,g3⟩:=ak_two wM (.int .u64 5) (.int .u64 4) 24
  have hm:=HM.out.below g3
  have HA':=Aside0.mk (show Calls Try.prog 23 #[.pointer none,.agg #[.slice A0 1 c0,.int .u64 K,.slice A2 1 c2],.slice (some ⟨wM.heap.size,0,none⟩) 1 1,.slice (some ⟨wM.heap.size + 1,0,none⟩) 1 1] _ _ from ring_Add.calls k A0 c0 [7] K A2 c2 [4] _ 1 [5] _ 1 [4] [2] 0 _ hm.1 hm.2.1 hm.2.2.1 hm.2.2.2 (ak_lit g1) (Nat.le_refl _) (ak_lit g2) (Nat.le_refl _) HA.out)
  have HG:=Aside0.mk g3
  clear g1 g2 g3 hm
  go_upto_region 3 with (go_at_call 23;(with_reducible refine HA'.out.mono ?_);rintro e w6 ⟨va,rfl,ha,hb6⟩;have HR6:=Aside0.mk ha;have HB6:=Aside0.mk (below_then HG.out HG.out.size hb6);clear ha hb6)
  obtain ⟨ada,ca,rfl,xa⟩:=ak_one HR6.out
  clear z0 z1 z2
  obtain ⟨z0,z1,z2⟩:=HZ.out _ HB6.out
  have hm:=HM.out.below (below_then HB6.out HB6.out.size (below_alloc (Below.refl w6.heap.size w6) (Obj.cells #[.int .u64 5] 24)))
  have HH':=Aside0.mk (show Calls Try.prog 18 #[.pointer none,.agg #[.slice A0 1 c0,.int .u64 K,.slice A2 1 c2],.slice (some ⟨w6.heap.size,0,none⟩) 1 1] _ _ from ring_Half.calls k A0 c0 [7] K A2 c2 [4] _ 1 [5] [6] 0 _ hm.1 hm.2.1 hm.2.2.1 hm.2.2.2 (ak_lit (blk_new w6 (Obj.cells #[.int .u64 5] 24))) (Nat.le_refl _) HH.out)
  have HX:=Aside0.mk xa
  clear hm xa
  go_upto_region 4 with (go_at_call 18;(with_reducible refine HH'.out.mono ?_);rintro e w7 ⟨vb,rfl,ha,hb7⟩;have HR7:=Aside0.mk ha;have HB7:=Aside0.mk (below_then (below_alloc (Below.refl w6.heap.size w6) (Obj.cells #[.int .u64 5] 24)) (below_alloc (Below.refl w6.heap.size w6) (Obj.cells #[.int .u64 5] 24)).size hb7);clear ha hb7)
  obtain ⟨adb,cb,rfl,xb⟩:=ak_one HR7.out
  have xa:=(HB7.out.cell (World.block_lt_of_cell? w6 _ HX.out)).trans HX.out
  have HB':=Aside0.mk (below_then HB.out HB.out.size (below_then HB6.out HB6.out.size HB7.out))
  clear z0 z1 z2
  go_wp2
  go_ret
  exact ⟨rfl,HB'.out⟩
end Go.Proofs.Ytonpekldcnankaa.X
end
section
namespace Go.Proofs.Ytonpekldcnankaa.X
open Go.RowKit Go.Proofs.YtonpekldcnankaaW.PrintWords Go.Proofs.YtonpekldcnankaaW.PrintLast Go.Proofs.YtonpekldcnankaaW.PrintMore
attribute [local go_sem] max2_int min2_int max_two min_two max_three min_three max_four min_four
set_option linter.unusedVariables false
set_option linter.unusedSimpArgs false
def sconcelaw07_awake.f (k:Nat):Option Bool:=if sconceref06_Setup.f k [7] = some ([7],10540996613548315209,[4],0)∧ring_Add.f k [7] 10540996613548315209 [4] [5] [4] = some ([2],0)∧ring_Half.f k [7] 10540996613548315209 [4] [5] = some ([6],0) then some true else none
theorem sconcelaw07_awake.mono:∀ k,LeO (sconcelaw07_awake.f k) (sconcelaw07_awake.f (k + 1)):=by
 intro k r h
 unfold sconcelaw07_awake.f at h ⊢
 split at h
 ·
  rename_i hc
  rw [if_pos ⟨sconceref06_Setup.mono _ _ _ hc.1,ring_Add.mono _ _ _ _ _ _ _ hc.2.1,ring_Half.mono _ _ _ _ _ _ hc.2.2⟩]
  exact h
 ·
  exact absurd h (by simp)
theorem sconcelaw07_awake.calls (k:Nat) (r:Bool) (w:World) (h:sconcelaw07_awake.f k = some r) :
  Calls Try.prog 16 #[] w fun e w' => e = .returned (.bool r)∧Below w.heap.size w w':=by
 unfold sconcelaw07_awake.f at h
 split at h
 ·
  rename_i hc
  obtain rfl:=Option.some.inj h
  exact awake7_walk k _ w hc.1 hc.2.1 hc.2.2
 ·
  exact absurd h (by simp)
end Go.Proofs.Ytonpekldcnankaa.X
end
