/- Texts of the walk and of the plain laws, laid together by a program: Su, X13. -/
import Derived.Test.YtonpekldcnankaaZJ0
import Derived.Test.YtonpekldcnankaaZJ1
import Derived.Test.YtonpekldcnankaaZJ2
import Derived.Test.YtonpekldcnankaaZJ5
import Derived.Test.YtonpekldcnankaaZJ16
import Derived.Test.YtonpekldcnankaaZJ17
import Derived.Test.YtonpekldcnankaaZJ24
import Derived.Test.YtonpekldcnankaaZJ25
set_option maxHeartbeats 4000000
set_option maxRecDepth 100000
section
namespace Go.Proofs.Ytonpekldcnankaa.X
open Go.RowKit Go.Proofs.YtonpekldcnankaaW.PrintWords Go.Proofs.YtonpekldcnankaaW.PrintLast Go.Proofs.YtonpekldcnankaaW.PrintMore Go.Proofs.Ytonpekldcnankaa.Ma
set_option linter.unusedVariables false
set_option linter.unusedSimpArgs false
theorem st_boxes (w:World) (a:Value) (cs:Array Value) (t1 t2:TypeId) (W:World) (hW:W = (w.alloc (.cells #[a] t1)).alloc (.cells cs t2)) :
    W.heap[w.heap.size]? = some (.cells #[a] t1 (0,0))∧W.heap[w.heap.size + 1]? = some (.cells cs t2 (0,0))∧Below w.heap.size w W∧W.heap.size = w.heap.size + 2:=by
  rw [hW]
  refine ⟨blk_alloc (blk_new w _) _,?_,below_alloc (below_alloc (Below.refl _ _) _) _,by simp⟩
  have:=blk_new (w.alloc (.cells #[a] t1)) (.cells cs t2 (0,0))
  simpa using this
theorem mont_Setup_bad (A0:Option Addr) (c0:Nat) (l0:List Int) (E:Int) (w:World) (hr0:Kd.C (Kd.int .u64) w A0 l0.length l0) (hc0:l0.length≤c0) (h0:dg 18446744073709551616 l0) (hl0:l0.length≤1000)
    (hE:(E = 2∧130 < wlen (num 18446744073709551616 l0))∨(E = 1∧wlen (num 18446744073709551616 l0)≤130∧num 18446744073709551616 l0≤1)∨(E = 60∧wlen (num 18446744073709551616 l0)≤130∧1 < num 18446744073709551616 l0∧num 18446744073709551616 l0 % 2 = 0)) :
    Calls Try.prog 110 #[.slice A0 l0.length c0] w fun e w' => ∃ v0_ v2_:Value,e = .returned (.tuple #[.agg #[v0_,.int .u64 0,v2_],.int .i64 E])∧Kd.R (Kd.int .u64) 24 w' w.heap.size (fun k_ => some k_≠(v2_:Value).ownBlock) v0_ []∧Kd.R (Kd.int .u64) 24 w' w.heap.size (fun k_ => some k_≠(v0_:Value).ownBlock) v2_ []∧Below w.heap.size w w':=by
  obtain ⟨w0,hw0⟩:∃ w0:World,w0 = (w.alloc (.cells #[.slice A0 l0.length c0] 23)).alloc (.cells #[.slice none 0 0,.int .u64 0,.slice none 0 0] 26):=⟨_,rfl⟩
  obtain ⟨b1,b2,hB,hsz⟩:=st_boxes w _ _ _ _ w0 hw0
  have hu59:=Try.underlying26
  have HD:∀ w1:World,Below w0.heap.size w0 w1→Calls Try.prog 151 #[.pointer (some ⟨w.heap.size,0,none⟩),.pointer (some ⟨w.heap.size + 1,0,none⟩)] w1 fun e w' => e = .panicked (thrownM E)∧Below w1.heap.size w1 w':=by
    intro w1 hw1
    refine (Setup1_ok A0 c0 l0 w.heap.size (w.heap.size + 1) _ 0 0 w w1 (below_then hB hB.size hw1) (blk_below b1 hw1) (blk_below b2 hw1) (by omega) (by omega) hr0 hc0 h0 hl0 (fun g1 g2 g3 => ?_)).mono ?_
    · exfalso
      change wlen (num 18446744073709551616 l0)≤130 at g1
      change 1 < num 18446744073709551616 l0 at g2
      change num 18446744073709551616 l0 % 2 = 1 at g3
      omega
    · intro e w' h
      rcases h with ⟨g1,rfl,g2⟩ | ⟨g1,g2,rfl,g3⟩ | ⟨g1,g2,g3,rfl,g4⟩ | ⟨g1,g2,g3,_⟩
      · change 130 < wlen (num 18446744073709551616 l0) at g1
        have:E = 2:=by omega
        subst this
        exact ⟨rfl,g2⟩
      · change wlen (num 18446744073709551616 l0)≤130 at g1
        change num 18446744073709551616 l0≤1 at g2
        have:E = 1:=by omega
        subst this
        exact ⟨rfl,g3⟩
      · change wlen (num 18446744073709551616 l0)≤130 at g1
        change 1 < num 18446744073709551616 l0 at g2
        change num 18446744073709551616 l0 % 2 = 0 at g3
        have:E = 60:=by omega
        subst this
        exact ⟨rfl,g4⟩
      · exfalso
        change wlen (num 18446744073709551616 l0)≤130 at g1
        change 1 < num 18446744073709551616 l0 at g2
        change num 18446744073709551616 l0 % 2 = 1 at g3
        omega
  have HG:=Aside0.mk (guarded_throw 151 _ E w0 (fun _ => rfl) HD)
  have HB:=Aside0.mk (And.intro hB (And.intro b2 hsz))
  have hE0:E = 2∨E = 1∨E = 60:=by omega
  clear HD b1 b2 hB hsz hr0 h0 hE
  have e1:(E == 0) = false:=beq_eq_false_iff_ne.2 (by omega)
  have e2:decide (E = 0) = false:=decide_eq_false (by omega)
  have e3:(!(E == 0)) = true:=by rw [e1];rfl
  have e4:(E != 0) = true:=by unfold bne;rw [e1];rfl
  clear hE0
  go_enter Try.func110,Try.ntmps110
  go_wp2_with fail
  rw [← hw0]
  refine HG.out.mono ?_
  rintro e w4 ⟨rfl,h7⟩
  have HM4:=Aside0.mk (blk_below HB.out.2.1 h7)
  have z0:=(blk_cell HM4.out 0).trans rfl
  have z1:=(blk_cell HM4.out 1).trans rfl
  have z2:=(blk_cell HM4.out 2).trans rfl
  have f0:=blk_frozen HM4.out 0
  have f1:=blk_frozen HM4.out 1
  have f2:=blk_frozen HM4.out 2
  have HB4:=Aside0.mk (below_then HB.out.1 HB.out.1.size h7)
  clear h7
  go_wp2
  refine bodyPost_ret (results_ct rfl _ _ (w.heap.size + 1) 26 #[.slice none 0 0,.int .u64 0,.slice none 0 0] (0,0) _ rfl (blk_put (blk_put (blk_put HM4.out 0 _ rfl) 1 _ rfl) 2 _ rfl) Try.underlying26 rfl (by kernel_rfl)) rfl ?_
  exact ⟨_,_,rfl,Kd.R_nil _ _ _ _ _,Kd.R_nil _ _ _ _ _,below_set (below_set (below_set HB4.out (by omega)) (by omega)) (by omega)⟩
theorem mont_Setup_ok (kI:Nat) (A0:Option Addr) (c0:Nat) (l0:List Int) (x:Int) (w:World) (hr0:Kd.C (Kd.int .u64) w A0 l0.length l0) (hc0:l0.length≤c0) (h0:dg 18446744073709551616 l0) (hl0:l0.length≤1000)
    (h1:wlen (num 18446744073709551616 l0)≤130) (h2:1 < num 18446744073709551616 l0) (h3:num 18446744073709551616 l0 % 2 = 1) (hI:word_Inverse.f kI (at0 l0 0) = some x) :
    Calls Try.prog 110 #[.slice A0 l0.length c0] w fun e w' => ∃ v0_ v2_:Value,e = .returned (.tuple #[.agg #[v0_,.int .u64 (IntKind.u64.wrap (-x)),v2_],.int .i64 0])∧Kd.R (Kd.int .u64) 24 w' w.heap.size (fun k_ => some k_≠(v2_:Value).ownBlock) v0_ (dgs 18446744073709551616 (wlen (num 18446744073709551616 l0)) (num 18446744073709551616 l0)) ∧
      Kd.R (Kd.int .u64) 24 w' w.heap.size (fun k_ => some k_≠(v0_:Value).ownBlock) v2_ (dgs 18446744073709551616 (wlen (num 18446744073709551616 l0)) (18446744073709551616 ^ (2 * wlen (num 18446744073709551616 l0)) % num 18446744073709551616 l0))∧Below w.heap.size w w':=by
  obtain ⟨w0,hw0⟩:∃ w0:World,w0 = (w.alloc (.cells #[.slice A0 l0.length c0] 23)).alloc (.cells #[.slice none 0 0,.int .u64 0,.slice none 0 0] 26):=⟨_,rfl⟩
  obtain ⟨b1,b2,hB,hsz⟩:=st_boxes w _ _ _ _ w0 hw0
  have hu59:=Try.underlying26
  obtain ⟨w1,hw1⟩:∃ w1:World,w1 = w0.alloc (.cells #[.int .i64 0] 29):=⟨_,rfl⟩
  have hB1:Below w0.heap.size w0 w1:=by rw [hw1];exact below_alloc (Below.refl _ _) _
  have b3:w1.heap[w0.heap.size]? = some (.cells #[.int .i64 0] 29 (0,0)):=by rw [hw1];exact blk_new w0 _
  have hsz1:w1.heap.size = w0.heap.size + 1:=by rw [hw1];simp
  have HD:Calls Try.prog 151 #[.pointer (some ⟨w.heap.size,0,none⟩),.pointer (some ⟨w.heap.size + 1,0,none⟩)] w1 fun e w' => e = .returned (.tuple #[])∧(∃ vM vR:Value,w'.heap[w.heap.size + 1]? = some (.cells #[vM,.int .u64 (IntKind.u64.wrap (-x)),vR] 26 (0,0)) ∧
      Kd.R (Kd.int .u64) 24 w' w1.heap.size (fun k_ => w1.heap.size≤k_∧some k_≠vR.ownBlock) vM (wds (wlen (nW l0)) (nW l0))∧Kd.R (Kd.int .u64) 24 w' w1.heap.size (fun k_ => w1.heap.size≤k_∧some k_≠vM.ownBlock) vR (wds (wlen (nW l0)) (18446744073709551616 ^ (2 * wlen (nW l0)) % nW l0))∧Below w.heap.size w w')∧w'.heap[w0.heap.size]? = some (.cells #[.int .i64 0] 29 (0,0)):=by
    refine (Setup1_ok A0 c0 l0 w.heap.size (w.heap.size + 1) _ kI x w w1 (below_then hB hB.size hB1) (blk_below b1 hB1) (blk_below b2 hB1) (by omega) (by omega) hr0 hc0 h0 hl0 (fun _ _ _ => hI)).mono ?_
    intro e w' h
    change wlen (nW l0)≤130 at h1
    change 1 < nW l0 at h2
    change nW l0 % 2 = 1 at h3
    rcases h with ⟨g1,_⟩ | ⟨_,g2,_⟩ | ⟨_,_,g3,_⟩ | ⟨_,_,_,rfl,vM,vR,g1,g2,g3,g4,g5⟩
    · omega
    · omega
    · omega
    · exact ⟨rfl,⟨vM,vR,g1,g2,g3,g5⟩,(g4.2 w0.heap.size (by omega) (by omega)).trans b3⟩
  obtain ⟨K,hK⟩:∃ K:Int,K = IntKind.u64.wrap (-x):=⟨_,rfl⟩
  rw [← hK] at HD
  rw [← hK]
  clear hK
  rw [hw1] at HD
  have HG:=Aside0.mk (guarded_ret 151 _ _ w0 (fun _ => rfl) HD)
  have HB:=Aside0.mk (And.intro hsz hsz1)
  clear HD b1 b2 hB hsz hr0 h0 hB1 b3 hsz1 h1 h2 h3 hI
  have HW1:=Aside0.mk hw1
  clear hw1
  go_enter Try.func110,Try.ntmps110
  go_wp2_with fail
  rw [← hw0]
  refine HG.out.mono ?_
  rintro e w4 ⟨rfl,w3,⟨vM,vR,g1,g2,g3,g5⟩,rfl⟩
  have hw1:=HW1.out
  rw [← hw1] at g2 g3
  clear hw1
  have hs:=HB.out
  have hfar:∀ k,w1.heap.size≤k→k≠(⟨w0.heap.size,0,none⟩:Addr).block:=fun k hk => by show k≠w0.heap.size;omega
  have HM4:=Aside0.mk (blk_far g1 (p:=⟨w0.heap.size,0,none⟩) (by show w.heap.size + 1≠w0.heap.size;omega) (.int .i64 0))
  have HR4:=Aside0.mk (And.intro (Kd.R_far (p:=⟨w0.heap.size,0,none⟩) g2 (fun k hk => hfar k hk.1) (.int .i64 0)) (Kd.R_far (p:=⟨w0.heap.size,0,none⟩) g3 (fun k hk => hfar k hk.1) (.int .i64 0)))
  have HB4:=Aside0.mk (below_set (j:=0) (v:=.int .i64 0) g5 (show w.heap.size≤w0.heap.size by omega))
  obtain ⟨w4,hw4⟩:∃ w4:World,w4 = w3.setCell ⟨w0.heap.size,0,none⟩ (.int .i64 0):=⟨_,rfl⟩
  rw [← hw4] at HM4 HR4 HB4 ⊢
  obtain ⟨AM,cM,eM⟩:=Kd.R_slice g2
  obtain ⟨AR,cR,eR⟩:=Kd.R_slice g3
  subst eM
  subst eR
  have z0:=(blk_cell HM4.out 0).trans rfl
  have z1:=(blk_cell HM4.out 1).trans rfl
  have z2:=(blk_cell HM4.out 2).trans rfl
  have f0:=blk_frozen HM4.out 0
  have f1:=blk_frozen HM4.out 1
  have f2:=blk_frozen HM4.out 2
  clear g1 g2 g3 g5 hs hfar hw4
  go_wp2
  refine bodyPost_ret (results_ct rfl _ _ (w.heap.size + 1) 26 _ (0,0) _ rfl (blk_put (blk_put (blk_put HM4.out 0 _ rfl) 1 _ rfl) 2 _ rfl) Try.underlying26 rfl (by kernel_rfl)) rfl ?_
  have hs:=HB.out
  have hne:∀ i,∀ k,w1.heap.size≤k→k≠(⟨w.heap.size + 1,i,none⟩:Addr).block:=fun i k hk => by show k≠w.heap.size + 1;omega
  exact ⟨_,_,rfl,Kd.R_mono (Kd.R_lower (Kd.R_far (Kd.R_far (Kd.R_far HR4.out.1 (fun k hk => hne 0 k hk.1) _) (fun k hk => hne 1 k hk.1) _) (fun k hk => hne 2 k hk.1) _) (by omega)) (fun k hk => hk.2),Kd.R_mono (Kd.R_lower (Kd.R_far (Kd.R_far (Kd.R_far HR4.out.2 (fun k hk => hne 0 k hk.1) _) (fun k hk => hne 1 k hk.1) _) (fun k hk => hne 2 k hk.1) _) (by omega)) (fun k hk => hk.2),below_set (below_set (below_set HB4.out (by omega)) (by omega)) (by omega)⟩
end Go.Proofs.Ytonpekldcnankaa.X
end
section
namespace Go.Proofs.Ytonpekldcnankaa.X
open Go.RowKit Go.Proofs.YtonpekldcnankaaW.PrintWords Go.Proofs.YtonpekldcnankaaW.PrintLast Go.Proofs.YtonpekldcnankaaW.PrintMore
attribute [local go_sem] max2_int min2_int max_two min_two max_three min_three max_four min_four
set_option linter.unusedVariables false
set_option linter.unusedSimpArgs false
def mont_Setup.f (k:Nat) (l0:List Int):Option (List Int × Int × List Int × Int) :=
 if l0.all Ma.wd = true∧l0.length≤1000 then
  if 130 < wlen (Ma.num 18446744073709551616 l0) then some ([],0,[],2)
  else if Ma.num 18446744073709551616 l0≤1 then some ([],0,[],1)
  else if Ma.num 18446744073709551616 l0 % 2 = 0 then some ([],0,[],60)
  else (word_Inverse.f k (Ma.at0 l0 0)).bind fun x => some (Ma.dgs 18446744073709551616 (wlen (Ma.num 18446744073709551616 l0)) (Ma.num 18446744073709551616 l0),IntKind.u64.wrap (-x),Ma.dgs 18446744073709551616 (wlen (Ma.num 18446744073709551616 l0)) (18446744073709551616 ^ (2 * wlen (Ma.num 18446744073709551616 l0)) % Ma.num 18446744073709551616 l0),0)
 else none
theorem mont_Setup.mono:∀ a0 k,LeO (mont_Setup.f k a0) (mont_Setup.f (k + 1) a0):=by
 intro a0 k r h
 unfold mont_Setup.f at h ⊢
 split at h
 ·
  rename_i hc
  rw [if_pos hc]
  split at h
  ·
   rename_i h1
   rw [if_pos h1]
   exact h
  ·
   rename_i h1
   rw [if_neg h1]
   split at h
   ·
    rename_i h2
    rw [if_pos h2]
    exact h
   ·
    rename_i h2
    rw [if_neg h2]
    split at h
    ·
     rename_i h3
     rw [if_pos h3]
     exact h
    ·
     rename_i h3
     rw [if_neg h3]
     cases e:word_Inverse.f k (Ma.at0 a0 0) with
     | none => rw [e] at h;exact absurd h (by simp)
     | some x => rw [e] at h;rw [word_Inverse.mono _ _ _ e];exact h
 ·
  exact absurd h (by simp)
theorem mont_Setup.calls (k:Nat) (A0:Option Addr) (c0:Nat) (l0:List Int) (r1:List Int) (r2:Int) (r3:List Int) (r4:Int) (w:World) (hr0:Kd.C (Kd.int .u64) w A0 l0.length l0) (hc0:l0.length≤c0) (h:mont_Setup.f k l0 = some (r1,r2,r3,r4)) :
  Calls Try.prog 110 #[.slice A0 l0.length c0] w fun e w' => ∃ v0_ v2_:Value,e = .returned (.tuple #[.agg #[v0_,.int .u64 r2,v2_],.int .i64 r4])∧Kd.R (Kd.int .u64) 24 w' w.heap.size (fun k_ => some k_≠(v2_:Value).ownBlock) v0_ r1∧Kd.R (Kd.int .u64) 24 w' w.heap.size (fun k_ => some k_≠(v0_:Value).ownBlock) v2_ r3∧Below w.heap.size w w':=by
 unfold mont_Setup.f at h
 split at h
 ·
  rename_i hc
  obtain ⟨h1,h2⟩:=hc
  split at h
  ·
   rename_i hl
   simp only [Option.some.injEq,Prod.mk.injEq] at h
   obtain ⟨rfl,rfl,rfl,rfl⟩:=h
   exact mont_Setup_bad A0 c0 l0 2 w hr0 hc0 (Ma.wds_dg.1 h1) h2 (.inl ⟨rfl,hl⟩)
  ·
   rename_i hl
   split at h
   ·
    rename_i hz
    simp only [Option.some.injEq,Prod.mk.injEq] at h
    obtain ⟨rfl,rfl,rfl,rfl⟩:=h
    exact mont_Setup_bad A0 c0 l0 1 w hr0 hc0 (Ma.wds_dg.1 h1) h2 (.inr (.inl ⟨rfl,by omega,hz⟩))
   ·
    rename_i hz
    split at h
    ·
     rename_i he
     simp only [Option.some.injEq,Prod.mk.injEq] at h
     obtain ⟨rfl,rfl,rfl,rfl⟩:=h
     exact mont_Setup_bad A0 c0 l0 60 w hr0 hc0 (Ma.wds_dg.1 h1) h2 (.inr (.inr ⟨rfl,by omega,by omega,he⟩))
    ·
     rename_i he
     cases e:word_Inverse.f k (Ma.at0 l0 0) with
     | none => rw [e] at h;exact absurd h (by simp)
     | some x =>
      rw [e] at h
      simp only [Option.bind_some,Option.some.injEq,Prod.mk.injEq] at h
      obtain ⟨rfl,rfl,rfl,rfl⟩:=h
      exact mont_Setup_ok k A0 c0 l0 x w hr0 hc0 (Ma.wds_dg.1 h1) h2 (by omega) (by omega) (by omega) e
 ·
  exact absurd h (by simp)
end Go.Proofs.Ytonpekldcnankaa.X
end
