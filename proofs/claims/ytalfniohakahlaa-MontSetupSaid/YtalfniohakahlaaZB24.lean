/- Texts of the walk and of the plain laws, laid together by a program: Tk. -/
import Derived.ArgAppend
import Derived.Below
import Derived.BigQuiet
import Derived.Deep.AppendLies
import Derived.Deep.CutBlock
import Derived.Deep.DeepCutAuto
import Derived.Deep.Draws
import Derived.Deep.LoopGhost
import Derived.Deep.OwnRows
import Derived.Deep.QuietTactic
import Derived.Deep.RegionHeld3
import Derived.KernelRfl
import Derived.Laws.BitsAllLaws
import Derived.Laws.BitsLemmas
import Derived.Laws.BytesArg
import Derived.Laws.CopyOwn
import Derived.Laws.Externs
import Derived.Laws.IdiomCopy
import Derived.Laws.MakeOwn
import Derived.Laws.OwnMore
import Derived.Laws.Rows
import Derived.Laws.Slices
import Derived.Lib.AppendStr
import Derived.Lib.BitFns
import Derived.Lib.ConvBytes
import Derived.Lib.Hide
import Derived.Lib.Slices
import Derived.Lib.Small
import Derived.Lib.Strings
import Derived.Lib.Walk
import Derived.Maps.AppendAt
import Derived.OrdersHeld
import Derived.OwnWalk
import Derived.RowKit
import Derived.RowKit3
import Derived.Shelf.Spec.BitsCarry
import Derived.Tactics
import Derived.Test.YtalfniohakahlaaProg
import Derived.WalkKit
import Derived.WalkSmall
import Derived.WideLaws
import Derived.Test.YtalfniohakahlaaZB0
import Derived.Test.YtalfniohakahlaaZB1
import Derived.Test.YtalfniohakahlaaZB2
import Derived.Test.YtalfniohakahlaaZB5
import Derived.Test.YtalfniohakahlaaZB4
import Derived.Test.YtalfniohakahlaaZB3
import Derived.Test.YtalfniohakahlaaZB11
import Derived.Test.YtalfniohakahlaaZB18
import Derived.Test.YtalfniohakahlaaZB23
namespace Go.Proofs.Ytalfniohakahlaa.X
open Go.RowKit Go.Proofs.YtalfniohakahlaaW.PrintWords Go.Proofs.YtalfniohakahlaaW.PrintLast Go.Proofs.YtalfniohakahlaaW.PrintMore Go.Proofs.Ytalfniohakahlaa.Ma
attribute [local go_sem] max2_int min2_int max_two min_two max_three min_three max_four min_four
set_option linter.unusedVariables false
set_option linter.unusedSimpArgs false
def splW (xs : List Int) (j i D : Nat) : List Int := xs.take j ++ (wds i D ++ xs.drop (j + i))
theorem R_row {W : World} {base g L cap : Nat} {ok : Nat → Prop} {xs : List Int} (h : Kd.R (Kd.int .u64) 37 W base ok (.slice (some ⟨g, 0, none⟩) L cap) xs) :
    ∃ cur : Array Value, W.heap[g]? = some (.cells cur 37 (0, 0)) ∧ L ≤ cap ∧ L = xs.length ∧ base ≤ g ∧ cap ≤ maxLen ∧ cur.size = cap ∧ cur.toList.take L = encs (Value.int .u64) xs := by
  have hL := (Kd.R_reads' h).1
  subst hL
  have ho := Kd.own_of_R h
  obtain ⟨h1, h2⟩ := ho
  rcases h2 with ⟨he, _⟩ | ⟨g', cap', cur, he, hb, hh, hnc, hcm, hcs, ht⟩
  · cases he
  · injection he with e1 _ e3
    have e4 : g = g' := by
      have := Option.some.inj e1
      exact (Addr.mk.inj this).1
    subst e4
    subst e3
    exact ⟨cur, hh, hnc, rfl, hb, hcm, by rw [Nat.mul_one] at hcs; exact hcs, by rw [Nat.mul_one] at ht; exact ht⟩
theorem R_setRow {W : World} {base g L cap : Nat} {ok : Nat → Prop} {xs zs : List Int} {cur : Array Value} {j : Nat} (h : Kd.R (Kd.int .u64) 37 W base ok (.slice (some ⟨g, 0, none⟩) L cap) xs)
    (hc : W.heap[g]? = some (.cells cur 37 (0, 0))) (hs : cur.size = cap) (ht : cur.toList.take L = encs (Value.int .u64) xs) (hj : j + zs.length ≤ L) :
    Kd.R (Kd.int .u64) 37 (W.setRow g (cur.toList.take j ++ (encs (Value.int .u64) zs ++ cur.toList.drop (j + (encs (Value.int .u64) zs).length))).toArray) base ok (.slice (some ⟨g, 0, none⟩) L cap) (xs.take j ++ (zs ++ xs.drop (j + zs.length))) ∧
      W.grownBy (W.setRow g (cur.toList.take j ++ (encs (Value.int .u64) zs ++ cur.toList.drop (j + (encs (Value.int .u64) zs).length))).toArray) (some g) := by
  obtain ⟨cur', hc', hLc, hLx, hb, hm, _, _⟩ := R_row h
  have hez : (encs (Value.int .u64) zs).length = zs.length := by simp [encs]
  have hcl : cur.toList.length = cap := by rw [Array.length_toList, hs]
  rw [hez]
  have hxs : xs.length = L := hLx.symm
  have hl : (xs.take j ++ (zs ++ xs.drop (j + zs.length))).length = L := by
    rw [List.length_append, List.length_append, List.length_take, List.length_drop]; omega
  have hcur : cur.toList = encs (Value.int .u64) xs ++ cur.toList.drop L := by rw [← ht, List.take_append_drop]
  have hel : (encs (Value.int .u64) xs).length = L := by simp [encs, hxs]
  refine ⟨?_, ⟨rfl, rfl, rfl, by simp [World.setRow], fun k hk hne => setRow_other W g k _ (fun e => hne (by rw [e]))⟩⟩
  have ho : (W.setRow g (cur.toList.take j ++ (encs (Value.int .u64) zs ++ cur.toList.drop (j + zs.length))).toArray).ownsRow base 37 1 (.slice (some ⟨g, 0, none⟩) (xs.take j ++ (zs ++ xs.drop (j + zs.length))).length cap) (xs.take j ++ (zs ++ xs.drop (j + zs.length))).length (encs (Value.int .u64) (xs.take j ++ (zs ++ xs.drop (j + zs.length)))) := by
    refine ⟨by simp [encs], .inr ⟨g, cap, _, rfl, hb, setRow_heap W g cur _ _ _ hc, by rw [hl]; exact hLc, hm, ?_, ?_⟩⟩
    · simp [encs, hs]
      omega
    · rw [hl, Nat.mul_one, List.toList_toArray]
      have e1 : cur.toList.take j = encs (Value.int .u64) (xs.take j) := by
        rw [hcur, List.take_append_of_le_length (by rw [hel]; omega)]
        simp [encs]
      have e2 : cur.toList.drop (j + zs.length) = encs (Value.int .u64) (xs.drop (j + zs.length)) ++ cur.toList.drop L := by
        rw [hcur, List.drop_append_of_le_length (by rw [hel]; omega), ← hcur]
        simp [encs]
      rw [e1, e2, ← List.append_assoc, ← List.append_assoc, List.take_left']
      · simp [encs]
      · simp [encs]
        omega
  have h2 := Kd.R_of_own (h1 := fun _ => rfl) (ok := ok) ho (fun k hk => h.1 k hk)
  rw [hl] at h2
  exact h2
set_option maxHeartbeats 2000000 in
set_option maxRecDepth 100000 in
theorem mulword_nil (AV : Option Addr) (cv : Nat) (lv : List Int) (q : Nat) (W : World) (hv : Kd.C (Kd.int .u64) W AV lv.length lv) (hcv : lv.length ≤ cv) (h1 : Wd lv) (hq : q < 18446744073709551616) (hl : lv.length ≤ 300) :
    Calls Try.prog 25 #[.pointer none, .slice AV lv.length cv, .int .u64 (q : Int), .slice none 0 0] W fun e w' => ∃ A c, e = .returned (.tuple #[.slice A lv.length c, .int .u64 ((nW lv * q / 18446744073709551616 ^ lv.length : Nat) : Int)]) ∧
      Kd.R (Kd.int .u64) 37 w' W.heap.size (fun _ => True) (.slice A lv.length c) (wds lv.length (nW lv * q)) ∧ Below W.heap.size W w' := by
  have h := product_MulWord_ok AV cv lv q none 0 [] W hv hcv (Kd.C_of_reads (h1 := fun _ => rfl) (d := (0 : Int)) (ReadsOf.nil _ _ _)) (by simp) h1 dg_nil hq hl (by simp)
  rw [show max lv.length ([] : List Int).length = lv.length by simp, show nW ([] : List Int) = 0 from rfl, Nat.add_zero] at h
  refine Calls.mono h ?_
  rintro e w' ⟨v, rfl, h2, h3⟩
  obtain ⟨A, c, e9⟩ := Kd.R_slice h2
  rw [show (wds lv.length (nW lv * q)).length = lv.length from dgs_length _ _ _] at e9
  subst e9
  exact ⟨A, c, rfl, h2, h3⟩
set_option maxHeartbeats 2000000 in
set_option maxRecDepth 100000 in
theorem taken_no (g L cap j c base : Nat) (ok : Nat → Prop) (xs : List Int) (AV : Option Addr) (cv : Nat) (lv : List Int) (q : Nat) (w : World)
    (hR : Kd.R (Kd.int .u64) 37 w base ok (.slice (some ⟨g, 0, none⟩) L cap) xs) (hjn : j + (lv.length + 1) ≤ L) (hcu : lv.length + 1 ≤ c) (hv : Kd.C (Kd.int .u64) w AV lv.length lv) (hcv : lv.length ≤ cv)
    (hd : Wd xs) (hdv : Wd lv) (hn : lv.length ≤ 300) (hq : q < 18446744073709551616) (h : nW ((xs.drop j).take (lv.length + 1)) < nW lv * q) :
    Calls Try.prog 101 #[.slice (some ⟨g, j, none⟩) (lv.length + 1) c, .slice AV lv.length cv, .int .u64 (q : Int)] w fun e w' => e = .returned (.bool false) ∧ Below w.heap.size w w' := by
  have hL : L = xs.length := (Kd.R_reads' hR).1
  obtain ⟨lu, hlu⟩ : ∃ lu, (xs.drop j).take (lv.length + 1) = lu := ⟨_, rfl⟩
  have hll : lu.length = lv.length + 1 := by rw [← hlu, List.length_take, List.length_drop]; omega
  have hdu : Wd lu := fun x hx => hd x (List.mem_of_mem_drop (List.mem_of_mem_take (hlu ▸ hx)))
  have hC := C_piece hR j (lv.length + 1) hjn (by omega)
  rw [hlu, ← hll] at hC
  rw [hlu] at h
  have HM := fun W hb => mulword_nil AV cv lv q W (Kd.C_below hv hb) hcv hdv hq hn
  have htl : nW lv * q / 18446744073709551616 ^ lv.length < 18446744073709551616 := by
    rw [Nat.div_lt_iff_lt_mul (Nat.pow_pos (by decide)), Nat.mul_comm 18446744073709551616]
    exact Nat.mul_lt_mul'' (nW_lt hdv) hq
  have hap : wds lv.length (nW lv * q) ++ [((nW lv * q / 18446744073709551616 ^ lv.length : Nat) : Int)] = wds (lv.length + 1) (nW lv * q) := by
    show _ = dgs _ _ _
    rw [dgs_snoc, Nat.mod_eq_of_lt htl]
  have hS := sp_limbs_Sub (a := lu) (b := wds (lv.length + 1) (nW lv * q)) hdu (wds_Wd _ _) (by rw [dgs_length, hll, Nat.max_self]; omega)
  have hnp : nW (wds (lv.length + 1) (nW lv * q)) = nW lv * q := nW_wds (by rw [Nat.pow_succ]; exact Nat.mul_lt_mul'' (nW_lt hdv) hq)
  rw [dgs_length, hll, Nat.max_self, hnp, if_pos h] at hS
  obtain ⟨tp, htp⟩ : ∃ z : Int, z = ((nW lv * q / 18446744073709551616 ^ lv.length : Nat) : Int) := ⟨_, rfl⟩
  rw [← htp] at HM hap
  obtain ⟨lp, hlp⟩ : ∃ l : List Int, l = wds (lv.length + 1) (nW lv * q) := ⟨_, rfl⟩
  rw [← hlp] at hS hap
  obtain ⟨lq, hlq⟩ : ∃ l : List Int, l = wds lv.length (nW lv * q) := ⟨_, rfl⟩
  rw [← hlq] at HM hap
  have hlql : lq.length = lv.length := by rw [hlq, dgs_length]
  have hlpl : lp.length = lv.length + 1 := by rw [hlp, dgs_length]
  obtain ⟨ld, hld⟩ : ∃ l : List Int, l = wds (lv.length + 1) (nW lu + 18446744073709551616 ^ (lv.length + 1) - nW lv * q) := ⟨_, rfl⟩
  rw [← hld] at hS
  have hldl : ld.length = lv.length + 1 := by rw [hld, dgs_length]
  have HS := Aside0.mk hS
  have HMM := Aside0.mk HM
  have HAP := Aside0.mk hap
  have HC := Aside0.mk hC
  have HR := Aside0.mk hR
  have HLL := Aside0.mk (show lu.length = lv.length + 1 ∧ lq.length = lv.length ∧ lp.length = lv.length + 1 ∧ ld.length = lv.length + 1 from ⟨hll, hlql, hlpl, hldl⟩)
  have HLU := Aside0.mk (And.intro hlu hld)
  have hln := hn
  clear hlu hdu hC hR hv HM htl hap hS hnp htp hlp hlq hld hll hlql hlpl hldl h hd hdv
  go_enter Try.func101, Try.ntmps101
  go_wp2_with (first
    | (go_at_call 25; (with_reducible refine (HMM.out _ (Below.refl _ _)).mono ?_); rintro e w1 ⟨A1, c1, rfl, h5, h6⟩; have HO1 := Aside0.mk h5; have HB1 := Aside0.mk h6; clear h5 h6)
    | ((with_reducible refine gate_dst (N := 21) rfl ?_); refine Kd.R_lit (Kd.int .u64) _ 37 ?hg (N := 21) ?hd (xs := ([tp] : List Int)) (inner := [.int .u64 tp]) (ok := fun _ => True) (okp := fun _ => True) ?hr ?hp (fun _ hk => hk) trivial (Below.refl _ _) (Nat.le_refl _) (by simp) ?_; (case hd => rfl); (case hg => rfl); (case hr => first | (go_simp; done) | (go_simp; rfl)); (case hp => exact (Reps.one (show Kd.M (Kd.int .u64) _ _ _ tp [.int .u64 tp] from rfl) (Reps.none _ _))); intro v2 w2 ho2 hb2 hg2 hn2; clear hg2 hn2; have HO2 := Aside0.mk ho2; have HB2 := Aside0.mk hb2; clear ho2 hb2; obtain ⟨A2, c2, e9⟩ := Kd.R_slice HO2.out; subst e9)
    | ((with_reducible refine gate_builtin (b := .append) (xs := #[.tmp 19, .tmp 21]) rfl ?_); at_builtin; refine Kd.R_append_rows (Kd.int .u64) (w0 := w) w.heap.size rfl (.tmp 19) (.tmp 21) 23 37 (.int .u64 0) 8 rfl Try.underlying23 info_u64 rfl (by decide) (by omega) (.slice A1 lv.length c1) lq [tp] A2 1 c2 (fun _ => True) (fun _ => False) rfl rfl ?aO ?aR (fun _ _ h => h) (fun _ h => h.elim) (fun _ _ => trivial) ?aB ?aS ?aL ?_; (case aO => exact Kd.R_below HO1.out HB2.out); (case aR => exact (Kd.R_reads' HO2.out).2.2); (case aB => exact below_then HB1.out HB1.out.size HB2.out); (case aS => exact (below_then HB1.out HB1.out.size HB2.out).size); (case aL => rw [HLL.out.2.1]; omega); intro v3 w3 ho3 hb3 hg3 hat3; rw [HAP.out] at ho3; have HO3 := Aside0.mk ho3; have HB3 := Aside0.mk hb3; clear ho3 hb3 hg3 hat3; obtain ⟨A3, c3, e9⟩ := Kd.R_slice HO3.out; subst e9)
    | (go_at_call 64; (with_reducible refine (show Calls Try.prog 64 #[.pointer none, .slice (some ⟨g, j, none⟩) (lv.length + 1) c, .slice A3 lp.length c3] w3 _ from by have hh := limbs_Sub.calls (some ⟨g, j, none⟩) c lu A3 c3 lp _ _ w3 (Kd.C_below HC.out HB3.out) (by rw [HLL.out.1]; exact hcu) (Kd.R_reads' HO3.out).2.2 (Kd.R_reads' HO3.out).2.1 HS.out; rw [HLL.out.1] at hh; exact hh).mono ?_); rintro e w4 ⟨v4, rfl, ho4, hb4⟩; have HB4 := Aside0.mk (below_then HB3.out HB3.out.size hb4); obtain ⟨A4, c4, e9⟩ := Kd.R_slice ho4; subst e9; have HO4 := Aside0.mk ho4; clear ho4 hb4))
  go_ret
  exact ⟨rfl, HB4.out⟩
set_option maxHeartbeats 2000000 in
set_option maxRecDepth 100000 in
theorem taken_yes (g L cap j c base : Nat) (ok : Nat → Prop) (xs : List Int) (AV : Option Addr) (cv : Nat) (lv : List Int) (q : Nat) (w : World)
    (hR : Kd.R (Kd.int .u64) 37 w base ok (.slice (some ⟨g, 0, none⟩) L cap) xs) (hjn : j + (lv.length + 1) ≤ L) (hcu : lv.length + 1 ≤ c) (hv : Kd.C (Kd.int .u64) w AV lv.length lv) (hcv : lv.length ≤ cv)
    (hd : Wd xs) (hdv : Wd lv) (hn : lv.length ≤ 300) (hq : q < 18446744073709551616) (h : nW lv * q ≤ nW ((xs.drop j).take (lv.length + 1))) :
    Calls Try.prog 101 #[.slice (some ⟨g, j, none⟩) (lv.length + 1) c, .slice AV lv.length cv, .int .u64 (q : Int)] w fun e w' => e = .returned (.bool true) ∧ Kd.R (Kd.int .u64) 37 w' base ok (.slice (some ⟨g, 0, none⟩) L cap) (splW xs j (lv.length + 1) (nW ((xs.drop j).take (lv.length + 1)) - nW lv * q)) ∧ w.grownBy w' (some g) := by
  have hL : L = xs.length := (Kd.R_reads' hR).1
  obtain ⟨lu, hlu⟩ : ∃ lu, (xs.drop j).take (lv.length + 1) = lu := ⟨_, rfl⟩
  have hll : lu.length = lv.length + 1 := by rw [← hlu, List.length_take, List.length_drop]; omega
  have hdu : Wd lu := fun x hx => hd x (List.mem_of_mem_drop (List.mem_of_mem_take (hlu ▸ hx)))
  have hC := C_piece hR j (lv.length + 1) hjn (by omega)
  rw [hlu, ← hll] at hC
  rw [hlu] at h
  have HM := fun W hb => mulword_nil AV cv lv q W (Kd.C_below hv hb) hcv hdv hq hn
  have htl : nW lv * q / 18446744073709551616 ^ lv.length < 18446744073709551616 := by
    rw [Nat.div_lt_iff_lt_mul (Nat.pow_pos (by decide)), Nat.mul_comm 18446744073709551616]
    exact Nat.mul_lt_mul'' (nW_lt hdv) hq
  have hap : wds lv.length (nW lv * q) ++ [((nW lv * q / 18446744073709551616 ^ lv.length : Nat) : Int)] = wds (lv.length + 1) (nW lv * q) := by
    show _ = dgs _ _ _
    rw [dgs_snoc, Nat.mod_eq_of_lt htl]
  have hS := sp_limbs_Sub (a := lu) (b := wds (lv.length + 1) (nW lv * q)) hdu (wds_Wd _ _) (by rw [dgs_length, hll, Nat.max_self]; omega)
  have hnp : nW (wds (lv.length + 1) (nW lv * q)) = nW lv * q := nW_wds (by rw [Nat.pow_succ]; exact Nat.mul_lt_mul'' (nW_lt hdv) hq)
  rw [dgs_length, hll, Nat.max_self, hnp, if_neg (by omega)] at hS
  obtain ⟨tp, htp⟩ : ∃ z : Int, z = ((nW lv * q / 18446744073709551616 ^ lv.length : Nat) : Int) := ⟨_, rfl⟩
  rw [← htp] at HM hap
  obtain ⟨lp, hlp⟩ : ∃ l : List Int, l = wds (lv.length + 1) (nW lv * q) := ⟨_, rfl⟩
  rw [← hlp] at hS hap
  obtain ⟨lq, hlq⟩ : ∃ l : List Int, l = wds lv.length (nW lv * q) := ⟨_, rfl⟩
  rw [← hlq] at HM hap
  have hlql : lq.length = lv.length := by rw [hlq, dgs_length]
  have hlpl : lp.length = lv.length + 1 := by rw [hlp, dgs_length]
  obtain ⟨ld, hld⟩ : ∃ l : List Int, l = wds (lv.length + 1) (nW lu - nW lv * q) := ⟨_, rfl⟩
  rw [← hld] at hS
  have hldl : ld.length = lv.length + 1 := by rw [hld, dgs_length]
  have HS := Aside0.mk hS
  have HMM := Aside0.mk HM
  have HAP := Aside0.mk hap
  have HC := Aside0.mk hC
  have HR := Aside0.mk hR
  have HLL := Aside0.mk (show lu.length = lv.length + 1 ∧ lq.length = lv.length ∧ lp.length = lv.length + 1 ∧ ld.length = lv.length + 1 from ⟨hll, hlql, hlpl, hldl⟩)
  have HLU := Aside0.mk (And.intro hlu hld)
  have hln := hn
  clear hlu hdu hC hR hv HM htl hap hS hnp htp hlp hlq hld hll hlql hlpl hldl h hd hdv
  go_enter Try.func101, Try.ntmps101
  go_wp2_with (first
    | (go_at_call 25; (with_reducible refine (HMM.out _ (Below.refl _ _)).mono ?_); rintro e w1 ⟨A1, c1, rfl, h5, h6⟩; have HO1 := Aside0.mk h5; have HB1 := Aside0.mk h6; clear h5 h6)
    | ((with_reducible refine gate_dst (N := 21) rfl ?_); refine Kd.R_lit (Kd.int .u64) _ 37 ?hg (N := 21) ?hd (xs := ([tp] : List Int)) (inner := [.int .u64 tp]) (ok := fun _ => True) (okp := fun _ => True) ?hr ?hp (fun _ hk => hk) trivial (Below.refl _ _) (Nat.le_refl _) (by simp) ?_; (case hd => rfl); (case hg => rfl); (case hr => first | (go_simp; done) | (go_simp; rfl)); (case hp => exact (Reps.one (show Kd.M (Kd.int .u64) _ _ _ tp [.int .u64 tp] from rfl) (Reps.none _ _))); intro v2 w2 ho2 hb2 hg2 hn2; clear hg2 hn2; have HO2 := Aside0.mk ho2; have HB2 := Aside0.mk hb2; clear ho2 hb2; obtain ⟨A2, c2, e9⟩ := Kd.R_slice HO2.out; subst e9)
    | ((with_reducible refine gate_builtin (b := .append) (xs := #[.tmp 19, .tmp 21]) rfl ?_); at_builtin; refine Kd.R_append_rows (Kd.int .u64) (w0 := w) w.heap.size rfl (.tmp 19) (.tmp 21) 23 37 (.int .u64 0) 8 rfl Try.underlying23 info_u64 rfl (by decide) (by omega) (.slice A1 lv.length c1) lq [tp] A2 1 c2 (fun _ => True) (fun _ => False) rfl rfl ?aO ?aR (fun _ _ h => h) (fun _ h => h.elim) (fun _ _ => trivial) ?aB ?aS ?aL ?_; (case aO => exact Kd.R_below HO1.out HB2.out); (case aR => exact (Kd.R_reads' HO2.out).2.2); (case aB => exact below_then HB1.out HB1.out.size HB2.out); (case aS => exact (below_then HB1.out HB1.out.size HB2.out).size); (case aL => rw [HLL.out.2.1]; omega); intro v3 w3 ho3 hb3 hg3 hat3; rw [HAP.out] at ho3; have HO3 := Aside0.mk ho3; have HB3 := Aside0.mk hb3; clear ho3 hb3 hg3 hat3; obtain ⟨A3, c3, e9⟩ := Kd.R_slice HO3.out; subst e9)
    | (go_at_call 64; (with_reducible refine (show Calls Try.prog 64 #[.pointer none, .slice (some ⟨g, j, none⟩) (lv.length + 1) c, .slice A3 lp.length c3] w3 _ from by have hh := limbs_Sub.calls (some ⟨g, j, none⟩) c lu A3 c3 lp _ _ w3 (Kd.C_below HC.out HB3.out) (by rw [HLL.out.1]; exact hcu) (Kd.R_reads' HO3.out).2.2 (Kd.R_reads' HO3.out).2.1 HS.out; rw [HLL.out.1] at hh; exact hh).mono ?_); rintro e w4 ⟨v4, rfl, ho4, hb4⟩; have HB4 := Aside0.mk (below_then HB3.out HB3.out.size hb4); obtain ⟨A4, c4, e9⟩ := Kd.R_slice ho4; subst e9; have HO4 := Aside0.mk ho4; clear ho4 hb4)
    | ((with_reducible refine gate_builtin (b := .copy) (xs := #[.tmp 28, .tmp 29]) rfl ?_); obtain ⟨cur, hc5, hLc5, hLx5, hb5, hm5, hs5, ht5⟩ := R_row (Kd.R_below HR.out HB4.out); obtain ⟨ad4, hA4, hcs4⟩ := C_cells (Kd.R_reads' HO4.out).2.2 (by rw [HLL.out.2.2.2]; omega); subst hA4; obtain ⟨hR7, hG7⟩ := R_setRow (zs := ld) (j := j) (Kd.R_below HR.out HB4.out) hc5 hs5 ht5 (by rw [HLL.out.2.2.2]; omega); refine wpList_copy_own rfl (.tmp 28) (.tmp 29) 23 23 rfl 37 Try.underlying23 (by kernel_rfl) g j (lv.length + 1) c ad4 ld.length c4 rfl rfl cur 37 hc5 (encs (Value.int .u64) ld) (by rw [show Nat.min ld.length (lv.length + 1) = ld.length from Nat.min_eq_left (by rw [HLL.out.2.2.2]; exact Nat.le_refl _)]; simp [encs]) hcs4 (by rw [hs5]; simp [encs]; have := HLL.out.2.2.2; omega) (fun v hv => by simp [encs] at hv; obtain ⟨z, _, rfl⟩ := hv; rfl) ?_; obtain ⟨w7, hw7⟩ : ∃ w7 : World, w7 = w4.setRow g (cur.toList.take j ++ (encs (Value.int .u64) ld ++ cur.toList.drop (j + (encs (Value.int .u64) ld).length))).toArray := ⟨_, rfl⟩; rw [← hw7] at hR7 hG7 ⊢; have HR7 := Aside0.mk hR7; have HG7 := Aside0.mk (grown_then (grown_of_below HB4.out (some g)) hG7); clear hw7 hR7 hG7 hc5 hLc5 hLx5 hb5 hm5 hs5 ht5 hcs4))
  go_ret
  refine ⟨rfl, ?_, HG7.out⟩
  rw [HLU.out.1]
  unfold splW
  rw [← HLU.out.2]
  have := HR7.out
  rw [HLL.out.2.2.2] at this
  exact this
end Go.Proofs.Ytalfniohakahlaa.X
