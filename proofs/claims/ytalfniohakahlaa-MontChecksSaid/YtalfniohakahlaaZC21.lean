/- Texts of the walk and of the plain laws, laid together by a program: Dv, Dp. -/
import Derived.ArgAppend
import Derived.Below
import Derived.BigQuiet
import Derived.Deep.AppendLies
import Derived.Deep.CutBlock
import Derived.Deep.DeepCutAuto
import Derived.Deep.Draws
import Derived.Deep.LoopGhost
import Derived.Deep.OwnRows
import Derived.Deep.QuietTactic
import Derived.Deep.RegionHeld3
import Derived.KernelRfl
import Derived.Laws.BitsAllLaws
import Derived.Laws.BitsLemmas
import Derived.Laws.BytesArg
import Derived.Laws.Externs
import Derived.Laws.IdiomCopy
import Derived.Laws.MakeOwn
import Derived.Laws.OwnMore
import Derived.Laws.Rows
import Derived.Laws.Slices
import Derived.Lib.AppendStr
import Derived.Lib.BitFns
import Derived.Lib.ConvBytes
import Derived.Lib.Hide
import Derived.Lib.Slices
import Derived.Lib.Small
import Derived.Lib.Strings
import Derived.Lib.Walk
import Derived.Maps.AppendAt
import Derived.OrdersHeld
import Derived.OwnWalk
import Derived.RowKit
import Derived.RowKit3
import Derived.Shelf.Spec.BitsCarry
import Derived.Tactics
import Derived.Test.YtalfniohakahlaaProg
import Derived.WalkKit
import Derived.WalkSmall
import Derived.WideLaws
import Derived.Test.YtalfniohakahlaaZC0
import Derived.Test.YtalfniohakahlaaZC1
import Derived.Test.YtalfniohakahlaaZC2
import Derived.Test.YtalfniohakahlaaZC5
import Derived.Test.YtalfniohakahlaaZC4
import Derived.Test.YtalfniohakahlaaZC6
import Derived.Test.YtalfniohakahlaaZC3
import Derived.Test.YtalfniohakahlaaZC10
import Derived.Test.YtalfniohakahlaaZC11
import Derived.Test.YtalfniohakahlaaZC12
import Derived.Test.YtalfniohakahlaaZC17
import Derived.Test.YtalfniohakahlaaZC18
import Derived.Test.YtalfniohakahlaaZC19
section
namespace Go.Proofs.Ytalfniohakahlaa.X
open Go.RowKit Go.Proofs.YtalfniohakahlaaW.PrintWords Go.Proofs.YtalfniohakahlaaW.PrintLast Go.Proofs.YtalfniohakahlaaW.PrintMore Go.Proofs.Ytalfniohakahlaa.Ma
set_option linter.unusedVariables false
set_option linter.unusedSimpArgs false
abbrev dgH (l : List Int) : Prop := dg ((4294967296 : Nat) : Int) l
abbrev nH (l : List Int) : Nat := num 4294967296 l
theorem info_u32 : (Try.prog.info? 78).map (fun i => (i.zero, i.size, i.bytes)) = some (some (.int .u32 0), 1, 4) := by kernel_rfl
set_option maxHeartbeats 4000000 in
set_option maxRecDepth 100000 in
theorem ref_take_no (A : Option Addr) (c : Nat) (lu : List Int) (AV : Option Addr) (cv : Nat) (V q : Nat) (w : World)
    (hu : Kd.C (Kd.int .u32) w A lu.length lu) (hcu : lu.length ≤ c) (hv : Kd.C (Kd.int .u32) w AV (big V).length (big V)) (hcv : (big V).length ≤ cv)
    (hd : dgH lu) (hn : lu.length ≤ 1000000) (hV : blen V ≤ 1000000) (hq : q < 18446744073709551616) (h : nH lu < V * q) :
    Calls Try.prog 115 #[.slice A lu.length c, .slice AV (big V).length cv, .int .u64 (q : Int)] w fun e w' => e = .returned (.bool false) ∧ Below w.heap.size w w' := by
  have hbq : blen q ≤ 2 := blen_le (by omega)
  obtain ⟨k1, hk1⟩ := sp_Small hq
  obtain ⟨k2, hk2⟩ := sp_ref_Mul (a := V) (b := q) (by omega) (by omega)
  obtain ⟨k3, hk3⟩ := sp_trim hd (by omega)
  have hbu : blen (nH lu) ≤ 1000000 := Nat.le_trans (blen_le (num_lt hd)) hn
  obtain ⟨k4, hk4⟩ := sp_Cmp (x := nH lu) (y := V * q) (by omega)
  have S1 := Aside0.mk (hk1 k1 (Nat.le_refl _))
  have S2 := Aside0.mk (hk2 k2 (Nat.le_refl _))
  have S3 := Aside0.mk (hk3 k3 (Nat.le_refl _))
  have S4 := Aside0.mk (hk4 k4 (Nat.le_refl _))
  clear hk1 hk2 hk3 hk4
  obtain ⟨cm, hcm⟩ : ∃ cm, cmpI (nH lu) (V * q) = cm := ⟨_, rfl⟩
  have dcm : decide (cm < 0) = true := by rw [← hcm, decide_eq_true_eq]; unfold cmpI; rw [if_pos h]; omega
  have dcm' := of_decide_eq_true dcm
  rw [hcm] at S4
  clear hcm h
  have HU := Aside0.mk hu
  have HV := Aside0.mk hv
  clear hu hv
  go_enter Try.func115, Try.ntmps115
  go_wp2_with (first
    | (go_at_call 55; refine (sconceref03_Small.calls k1 _ _ _ S1.out).mono ?_; rintro e w1 ⟨v1, rfl, ho1, hb1⟩; obtain ⟨A1, c1, e1⟩ := Kd.V_slice ho1; subst e1; have HO1 := Aside0.mk (Kd.V_reads' ho1).2.2; have HC1 := Aside0.mk (Kd.V_reads' ho1).2.1; have HB1 := Aside0.mk hb1; clear ho1 hb1)
    | (go_at_call 51; refine (sconceref03_Mul.calls k2 _ _ (big V) _ _ (big q) _ _ (Kd.C_below HV.out HB1.out) hcv HO1.out HC1.out S2.out).mono ?_; rintro e w2 ⟨v2, rfl, ho2, hb2⟩; obtain ⟨A2, c2, e2⟩ := Kd.V_slice ho2; subst e2; have HO2 := Aside0.mk (Kd.V_reads' ho2).2.2; have HC2 := Aside0.mk (Kd.V_reads' ho2).2.1; have HB2 := Aside0.mk (below_then HB1.out HB1.out.size hb2); clear ho2 hb2)
    | ((with_reducible refine gate_builtin (b := .append) (xs := #[.const (.slice none 0 0), .tmp 14]) rfl ?_); at_builtin; refine Kd.R_append_rows (Kd.int .u32) (w0 := w2) w2.heap.size rfl (.const (.slice none 0 0)) (.tmp 14) 31 78 (.int .u32 0) 4 rfl Try.underlying31 info_u32 rfl (by decide) (by omega) (.slice none 0 0) [] lu A lu.length c (fun _ => True) (fun _ => False) rfl rfl (Kd.R_nil _ _ _ _ _) (Kd.C_below HU.out HB2.out) (fun _ _ h => h) (fun _ h => h.elim) (fun _ _ => trivial) (Below.refl _ _) (Nat.le_refl _) (by simp; omega) ?_; intro v3 w3 ho3 hb3 hg3 hat3; rw [List.nil_append] at ho3; have HO3 := Aside0.mk (Kd.R_V (base' := w3.heap.size) ho3); have HB3 := Aside0.mk hb3; clear ho3 hb3 hg3 hat3; obtain ⟨A3, c3, e3⟩ := Kd.V_slice HO3.out; subst e3)
    | (go_at_call 52; refine (sconceref03_trim.calls k3 (fun _ => True) _ _ lu _ _ HO3.out S3.out).mono ?_; rintro e w4 ⟨v4, rfl, ho4, hb4⟩; obtain ⟨A4, c4, e4⟩ := Kd.V_slice ho4; subst e4; have HO4 := Aside0.mk (Kd.V_reads' ho4).2.2; have HC4 := Aside0.mk (Kd.V_reads' ho4).2.1; have HB4 := Aside0.mk (below_then HB3.out HB3.out.size hb4); clear ho4 hb4)
    | (go_at_call 24; refine (sconceref03_Cmp.calls k4 _ _ (big (nH lu)) _ _ (big (V * q)) _ _ HO4.out HC4.out (Kd.C_below HO2.out HB4.out) HC2.out S4.out).mono ?_; rintro e w5 ⟨rfl, ⟨nd, rfl⟩⟩))
  go_ret
  exact ⟨rfl, pw_below_drewN (below_then HB2.out HB2.out.size HB4.out) _⟩
def spl (xs : List Int) (j i D : Nat) : List Int := xs.take j ++ (dgs 4294967296 i D ++ xs.drop (j + i))
theorem spl_zero (xs : List Int) (j D : Nat) : spl xs j 0 D = xs := by simp [spl, dgs]
theorem spl_set {xs : List Int} {j i : Nat} (D : Nat) (h : j + i < xs.length) (y : Int) (hy : y = ((D / 4294967296 ^ i % 4294967296 : Nat) : Int)) : (spl xs j i D).set (j + i) y = spl xs j (i + 1) D := by
  unfold spl
  rw [List.set_append_right _ _ (by rw [List.length_take]; omega), List.length_take, show j + i - min j xs.length = i by omega, List.set_append_right _ _ (by rw [dgs_length]; exact Nat.le_refl _), dgs_length, Nat.sub_self, List.drop_eq_getElem_cons h, List.set_cons_zero, dgs_snoc, hy, List.append_assoc]
  rfl
set_option maxHeartbeats 4000000 in
set_option maxRecDepth 100000 in
theorem ref_take_yes (g L cap j n c base : Nat) (ok : Nat → Prop) (xs : List Int) (AV : Option Addr) (cv : Nat) (V q : Nat) (w : World)
    (hR : Kd.R (Kd.int .u32) 78 w base ok (.slice (some ⟨g, 0, none⟩) L cap) xs) (hjn : j + n ≤ L) (hn0 : 0 < n) (hcu : n ≤ c) (hv : Kd.C (Kd.int .u32) w AV (big V).length (big V)) (hcv : (big V).length ≤ cv)
    (hd : dgH xs) (hn : n ≤ 1000000) (hV : blen V ≤ 1000000) (hq : q < 18446744073709551616) (h : V * q ≤ nH ((xs.drop j).take n)) :
    Calls Try.prog 115 #[.slice (some ⟨g, j, none⟩) n c, .slice AV (big V).length cv, .int .u64 (q : Int)] w fun e w' => e = .returned (.bool true) ∧ Kd.R (Kd.int .u32) 78 w' base ok (.slice (some ⟨g, 0, none⟩) L cap) (spl xs j n (nH ((xs.drop j).take n) - V * q)) ∧ w.grownBy w' (some g) := by
  have hL : L = xs.length := (Kd.R_reads' hR).1
  have hg := Kd.R_lt hR g rfl
  have hC := C_piece hR j n hjn (by omega)
  obtain ⟨lu, hlu⟩ : ∃ lu, (xs.drop j).take n = lu := ⟨_, rfl⟩
  have hll : lu.length = n := by rw [← hlu, List.length_take, List.length_drop]; omega
  have hdu : dgH lu := fun x hx => hd x (List.mem_of_mem_drop (List.mem_of_mem_take (hlu ▸ hx)))
  rw [hlu] at h hC ⊢
  subst hll
  have hbq : blen q ≤ 2 := blen_le (by omega)
  have hbu : blen (nH lu) ≤ 1000000 := Nat.le_trans (blen_le (num_lt hdu)) hn
  obtain ⟨k1, hk1⟩ := sp_Small hq
  obtain ⟨k2, hk2⟩ := sp_ref_Mul (a := V) (b := q) (by omega) (by omega)
  obtain ⟨k3, hk3⟩ := sp_trim hdu (by omega)
  obtain ⟨k4, hk4⟩ := sp_Cmp (x := nH lu) (y := V * q) (by omega)
  obtain ⟨k5, hk5⟩ := sp_Sub (x := nH lu) (y := V * q) (by omega) h
  have S1 := Aside0.mk (hk1 k1 (Nat.le_refl _))
  have S2 := Aside0.mk (hk2 k2 (Nat.le_refl _))
  have S3 := Aside0.mk (hk3 k3 (Nat.le_refl _))
  have S4 := Aside0.mk (hk4 k4 (Nat.le_refl _))
  have S5 := Aside0.mk (hk5 k5 (Nat.le_refl _))
  clear hk1 hk2 hk3 hk4 hk5
  obtain ⟨cm, hcm⟩ : ∃ cm, cmpI (nH lu) (V * q) = cm := ⟨_, rfl⟩
  have dcm : decide (cm < 0) = false := by rw [← hcm, decide_eq_false_iff_not]; unfold cmpI; rw [if_neg (by omega)]; split <;> omega
  have dcm' := of_decide_eq_false dcm
  rw [hcm] at S4
  obtain ⟨D, hD⟩ : ∃ D, nH lu - V * q = D := ⟨_, rfl⟩
  rw [hD] at S5 ⊢
  clear hcm h hlu hbu hbq hdu hD
  have HU := Aside0.mk hC
  have HV := Aside0.mk hv
  have HR := Aside0.mk hR
  clear hC hv hR
  go_enter Try.func115, Try.ntmps115
  go_wp2_with (first
    | (go_at_call 55; refine (sconceref03_Small.calls k1 _ _ _ S1.out).mono ?_; rintro e w1 ⟨v1, rfl, ho1, hb1⟩; obtain ⟨A1, c1, e1⟩ := Kd.V_slice ho1; subst e1; have HO1 := Aside0.mk (Kd.V_reads' ho1).2.2; have HC1 := Aside0.mk (Kd.V_reads' ho1).2.1; have HB1 := Aside0.mk hb1; clear ho1 hb1)
    | (go_at_call 51; refine (sconceref03_Mul.calls k2 _ _ (big V) _ _ (big q) _ _ (Kd.C_below HV.out HB1.out) hcv HO1.out HC1.out S2.out).mono ?_; rintro e w2 ⟨v2, rfl, ho2, hb2⟩; obtain ⟨A2, c2, e2⟩ := Kd.V_slice ho2; subst e2; have HO2 := Aside0.mk (Kd.V_reads' ho2).2.2; have HC2 := Aside0.mk (Kd.V_reads' ho2).2.1; have HB2 := Aside0.mk (below_then HB1.out HB1.out.size hb2); clear ho2 hb2)
    | ((with_reducible refine gate_builtin (b := .append) (xs := #[.const (.slice none 0 0), .tmp 14]) rfl ?_); at_builtin; refine Kd.R_append_rows (Kd.int .u32) (w0 := w2) w2.heap.size rfl (.const (.slice none 0 0)) (.tmp 14) 31 78 (.int .u32 0) 4 rfl Try.underlying31 info_u32 rfl (by decide) (by omega) (.slice none 0 0) [] lu (some ⟨g, j, none⟩) lu.length c (fun _ => True) (fun _ => False) rfl rfl (Kd.R_nil _ _ _ _ _) (Kd.C_below HU.out HB2.out) (fun _ _ h => h) (fun _ h => h.elim) (fun _ _ => trivial) (Below.refl _ _) (Nat.le_refl _) (by simp; omega) ?_; intro v3 w3 ho3 hb3 hg3 hat3; rw [List.nil_append] at ho3; have HO3 := Aside0.mk (Kd.R_V (base' := w3.heap.size) ho3); have HB3 := Aside0.mk hb3; clear ho3 hb3 hg3 hat3; obtain ⟨A3, c3, e3⟩ := Kd.V_slice HO3.out; subst e3)
    | ((with_reducible refine gate_callee (f := 52) rfl ?_); refine goesL_ (some 16) rfl rfl Try.func52 (by kernel_rfl) rfl #[.slice A3 lu.length c3] rfl (by (try simp only [List.map_toArray, List.map_cons, List.map_nil]); first | done | rfl) ?_; refine (sconceref03_trim.calls k3 (fun _ => True) _ _ lu _ _ HO3.out S3.out).mono ?_; rintro e w4 ⟨v4, rfl, ho4, hb4⟩; refine ⟨_, rfl, ?_⟩; obtain ⟨A4, c4, e4⟩ := Kd.V_slice ho4; subst e4; have HO4 := Aside0.mk (Kd.V_reads' ho4).2.2; have HC4 := Aside0.mk (Kd.V_reads' ho4).2.1; have HB4 := Aside0.mk (below_then HB3.out HB3.out.size hb4); clear ho4 hb4)
    | (go_at_call 24; refine (sconceref03_Cmp.calls k4 _ _ (big (nH lu)) _ _ (big (V * q)) _ _ HO4.out HC4.out (Kd.C_below HO2.out HB4.out) HC2.out S4.out).mono ?_; rintro e w5 ⟨rfl, ⟨nd, rfl⟩⟩; have HB5 := Aside0.mk (pw_below_drewN (below_then HB2.out HB2.out.size HB4.out) nd); have HO5 := Aside0.mk (Kd.C_below (w1 := w4.drewN nd) HO2.out (pw_below_drewN HB4.out nd)))
    | ((with_reducible refine gate_builtin (b := .append) (xs := #[.const (.slice none 0 0), .tmp 20]) rfl ?_); at_builtin; refine Kd.R_append_rows (Kd.int .u32) (w0 := w4.drewN nd) (w4.drewN nd).heap.size rfl (.const (.slice none 0 0)) (.tmp 20) 31 78 (.int .u32 0) 4 rfl Try.underlying31 info_u32 rfl (by decide) (by omega) (.slice none 0 0) [] lu (some ⟨g, j, none⟩) lu.length c (fun _ => True) (fun _ => False) rfl rfl (Kd.R_nil _ _ _ _ _) (Kd.C_below HU.out HB5.out) (fun _ _ h => h) (fun _ h => h.elim) (fun _ _ => trivial) (Below.refl _ _) (Nat.le_refl _) (by simp; omega) ?_; intro v6 w6 ho6 hb6 hg6 hat6; rw [List.nil_append] at ho6; have HO6 := Aside0.mk (Kd.R_V (base' := w6.heap.size) ho6); have HB6 := Aside0.mk hb6; clear ho6 hb6 hg6 hat6; obtain ⟨A6, c6, e6⟩ := Kd.V_slice HO6.out; subst e6)
    | ((with_reducible refine gate_callee (f := 52) rfl ?_); refine goesL_ (some 22) rfl rfl Try.func52 (by kernel_rfl) rfl #[.slice A6 lu.length c6] rfl (by (try simp only [List.map_toArray, List.map_cons, List.map_nil]); first | done | rfl) ?_; refine (sconceref03_trim.calls k3 (fun _ => True) _ _ lu _ _ HO6.out S3.out).mono ?_; rintro e w7 ⟨v7, rfl, ho7, hb7⟩; refine ⟨_, rfl, ?_⟩; obtain ⟨A7, c7, e7⟩ := Kd.V_slice ho7; subst e7; have HO7 := Aside0.mk (Kd.V_reads' ho7).2.2; have HC7 := Aside0.mk (Kd.V_reads' ho7).2.1; have HB7 := Aside0.mk (below_then HB6.out HB6.out.size hb7); clear ho7 hb7)
    | (go_at_call 119; refine (sconceref03_Sub.calls k5 _ _ (big (nH lu)) _ _ (big (V * q)) _ _ HO7.out HC7.out (Kd.C_below HO5.out HB7.out) HC2.out S5.out).mono ?_; rintro e w8 ⟨v8, rfl, ho8, hb8⟩; have HB8 := Aside0.mk (below_then HB5.out HB5.out.size (below_then HB7.out HB7.out.size hb8)); have HD8 := Aside0.mk (Kd.V_mono (ok' := fun k_ => w.heap.size ≤ k_) ho8 (fun k_ hk => Nat.le_trans (below_then HB5.out HB5.out.size HB7.out).size hk)); clear ho8 hb8; obtain ⟨A8, c8, e8⟩ := Kd.V_slice HD8.out; subst e8))
  have HR8 := Aside0.mk (Kd.R_below HR.out HB8.out)
  have HG8 := Aside0.mk (grown_of_below HB8.out (some g))
  clear HR HB8 HB7 HB6 HB5 HB4 HB3 HB2 HB1 HO1 HO2 HO3 HO4 HO5 HO6 HO7
  have HD0 := Aside0.mk (Kd.V_lower HD8.out (Nat.zero_le _))
  clear HD8 S1 S2 S3 S4 S5 HU HV
  go_loopg [27] (lu.length + 1) (fun qq v27 wr => ∃ i : Nat, i + qq = lu.length + 1 ∧ i ≤ lu.length ∧ v27 = .int .i64 i ∧ Aside0 (Kd.R (Kd.int .u32) 78 wr base ok (.slice (some ⟨g, 0, none⟩) L cap) (spl xs j i D)) ∧ Aside0 (Kd.V (Kd.int .u32) 78 wr 0 (fun k_ => w.heap.size ≤ k_) (.slice A8 (big D).length c8) (big D)) ∧ Aside0 (w.grownBy wr (some g)))
  case atStart => exact ⟨0, by omega, by omega, rfl, ⟨by rw [spl_zero]; exact HR8.out⟩, HD0, HG8⟩
  case round =>
    clear HR8 HG8 HD0
    obtain ⟨i, hiq, hin, rfl, HR, HD, HG⟩ := hrel
    cases gk with
    | zero => omega
    | succ k1 =>
      have HE := Aside0.mk hiq
      clear hiq
      by_cases hlt : i < lu.length
      · have d1 : decide ((i : Int) < (lu.length : Int)) = true := decide_eq_true (by omega)
        have d2 : decide (i < lu.length) = true := decide_eq_true hlt
        have S6 := Aside0.mk (sp_digit_big D i)
        obtain ⟨y, hy⟩ : ∃ y : Int, y = ((D / 4294967296 ^ i % 4294967296 : Nat) : Int) := ⟨_, rfl⟩
        rw [← hy] at S6
        have HY := Aside0.mk (spl_set (xs := xs) (j := j) (i := i) D (by omega) y hy)
        clear hy
        have p1 : (0 : Int) ≤ ((j + i : Nat) : Int) := by omega
        have q1 : ((j + i : Nat) : Int) < (L : Int) := by omega
        go_wp2_with (first
          | ((with_reducible refine gate_callee (f := 53) rfl ?_); refine goesL_ (some 34) rfl rfl Try.func53 (by kernel_rfl) rfl #[.slice A8 (big D).length c8, .int .i64 (i : Int)] rfl (by (try simp only [List.map_toArray, List.map_cons, List.map_nil]); first | done | rfl) ?_; (with_reducible refine (sconceref03_digit.calls _ _ (big D) (i : Int) y _ ?s1 ?s2 S6.out).mono ?_); (case s1 => exact (Kd.V_reads' HD.out).2.2); (case s2 => exact (Kd.V_reads' HD.out).2.1); rintro e w' ⟨rfl, ⟨nd, rfl⟩⟩; refine ⟨_, rfl, ?_⟩; have HR2 := Aside0.mk (Kd.R_drewN HR.out nd); have HD2 := Aside0.mk (Kd.V_drewN HD.out nd); have HG2 := Aside0.mk (grown_drewN HG.out nd); obtain ⟨hx, hf⟩ := Kd.R_celln 0 HR2.out ((j + i : Nat) : Int) p1 q1; rw [Int.toNat_natCast] at hx hf; clear HR HD HG))
        obtain ⟨hP, hQ⟩ := Kd.R_putg HR2.out ((j + i : Nat) : Int) y
        rw [Int.toNat_natCast] at hP hQ
        rw [HY.out] at hP
        have HP := Aside0.mk hP
        have HQ := Aside0.mk (grown_then HG2.out hQ)
        have HV2 := Aside0.mk (Kd.V_grown HD2.out hQ (fun k hk e => by have := Option.some.inj e; omega))
        clear hP hQ HR2 HD2 HG2 hx hf
        go_roundg k1
        case measure => omega
        case rel => exact ⟨i + 1, by have := HE.out; omega, by omega, by go_num, HP, HV2, HQ⟩
      · have hin' : i = lu.length := by omega
        subst hin'
        have d1 : decide ((lu.length : Int) < (lu.length : Int)) = false := decide_eq_false (by omega)
        have d2 : decide (lu.length < lu.length) = false := decide_eq_false hlt
        go_wp2
        go_ret
        exact ⟨rfl, HR.out, HG.out⟩
end Go.Proofs.Ytalfniohakahlaa.X
end
section
namespace Go.Proofs.Ytalfniohakahlaa.X
open Go.RowKit Go.Proofs.YtalfniohakahlaaW.PrintWords Go.Proofs.YtalfniohakahlaaW.PrintLast Go.Proofs.YtalfniohakahlaaW.PrintMore Go.Proofs.Ytalfniohakahlaa.Ma
set_option linter.unusedVariables false
theorem top_digit {m : Nat} (h : m ≠ 0) : 0 < m / 4294967296 ^ (blen m - 1) ∧ m / 4294967296 ^ (blen m - 1) < 4294967296 := by
  refine ⟨Nat.div_pos (blen_ge h) (Nat.pow_pos (by decide)), (Nat.div_lt_iff_lt_mul (Nat.pow_pos (by decide))).2 ?_⟩
  have := blen_lt m
  rwa [← Nat.pow_succ', Nat.succ_eq_add_one, show blen m - 1 + 1 = blen m by have := blen_pos h; omega]
theorem blen_shl {m s : Nat} (h : m ≠ 0) (hs : m / 4294967296 ^ (blen m - 1) * 2 ^ s < 4294967296) : blen (m * 2 ^ s) = blen m := by
  have h1 := blen_pos h
  have hle : blen m ≤ blen (m * 2 ^ s) := blen_mono (Nat.le_mul_of_pos_right _ (Nat.pow_pos (by decide)))
  refine Nat.le_antisymm (blen_le ?_) hle
  have htp := (top_digit h).1
  have hq := Nat.div_add_mod m (4294967296 ^ (blen m - 1))
  have hr := Nat.mod_lt m (show 0 < 4294967296 ^ (blen m - 1) from Nat.pow_pos (by decide))
  have e : 4294967296 ^ blen m = 4294967296 ^ (blen m - 1) * 4294967296 := by rw [← Nat.pow_succ]; congr 1; omega
  generalize m / 4294967296 ^ (blen m - 1) = t at *
  generalize 4294967296 ^ (blen m - 1) = P at *
  rw [e]
  have h2 : m < P * (t + 1) := by rw [Nat.mul_add]; omega
  have hsp : 0 < 2 ^ s := Nat.pow_pos (by decide)
  have h3 : m * 2 ^ s < P * (t + 1) * 2 ^ s := Nat.mul_lt_mul_of_pos_right h2 hsp
  have h4 : (t + 1) * 2 ^ s ≤ 4294967296 := by
    have hd : s ≤ 32 := by
      rcases Nat.lt_or_ge 32 s with h5 | h5
      · exfalso
        have := Nat.pow_le_pow_right (show 0 < 2 by decide) (show 32 ≤ s by omega)
        have := Nat.le_mul_of_pos_left (2 ^ s) htp
        omega
      · exact h5
    have e2 : 4294967296 = 2 ^ (32 - s) * 2 ^ s := by rw [← Nat.pow_add, show 32 - s + s = 32 by omega]
    have h5 : t < 2 ^ (32 - s) := by
      rw [e2] at hs
      exact Nat.lt_of_mul_lt_mul_right hs
    calc (t + 1) * 2 ^ s ≤ 2 ^ (32 - s) * 2 ^ s := Nat.mul_le_mul_right _ h5
      _ = 4294967296 := e2.symm
  calc m * 2 ^ s < P * (t + 1) * 2 ^ s := h3
    _ = P * ((t + 1) * 2 ^ s) := Nat.mul_assoc ..
    _ ≤ P * 4294967296 := Nat.mul_le_mul_left _ h4
theorem dm_digit (U V j : Nat) : U % (V * 4294967296 ^ (j + 1)) / 4294967296 ^ j / V = U / V / 4294967296 ^ j % 4294967296 := by
  rw [Nat.div_div_eq_div_mul, Nat.div_div_eq_div_mul, Nat.pow_succ, ← Nat.mul_assoc, Nat.mul_comm (4294967296 ^ j) V, Nat.mod_mul_right_div_self]
theorem dm_rest (U V j : Nat) : U % (V * 4294967296 ^ (j + 1)) % 4294967296 ^ j + 4294967296 ^ j * (U % (V * 4294967296 ^ (j + 1)) / 4294967296 ^ j % V) = U % (V * 4294967296 ^ j) := by
  rw [← Nat.mod_mul, Nat.mul_comm (4294967296 ^ j) V, Nat.mod_mod_of_dvd]
  exact ⟨4294967296, by rw [Nat.pow_succ, Nat.mul_assoc]⟩
theorem dgH_dgs (n x : Nat) : dgH (dgs 4294967296 n x) := dgs_dg (by decide) _ _
theorem piece_dgs (L X j n : Nat) (h : j + n ≤ L) : ((dgs 4294967296 L X).drop j).take n = dgs 4294967296 n (X / 4294967296 ^ j) := by
  obtain ⟨d, rfl⟩ : ∃ d, L = j + (n + d) := ⟨L - j - n, by omega⟩
  rw [dgs_append, List.drop_left' (dgs_length _ _ _), dgs_append, List.take_left' (dgs_length _ _ _)]
theorem spl_dgs (L X j n D : Nat) (h : j + n ≤ L) (hX : X / 4294967296 ^ (j + n) = 0) (hD : D < 4294967296 ^ n) : spl (dgs 4294967296 L X) j n D = dgs 4294967296 L (X % 4294967296 ^ j + 4294967296 ^ j * D) := by
  obtain ⟨d, rfl⟩ : ∃ d, L = j + (n + d) := ⟨L - j - n, by omega⟩
  have hl := Nat.mod_lt X (show 0 < 4294967296 ^ j from Nat.pow_pos (by decide))
  have hp : 0 < 4294967296 ^ j := Nat.pow_pos (by decide)
  have e1 : (X % 4294967296 ^ j + 4294967296 ^ j * D) / 4294967296 ^ j = D := by
    rw [Nat.add_mul_div_left _ _ hp, Nat.div_eq_of_lt hl, Nat.zero_add]
  have e2 : dgs 4294967296 j (X % 4294967296 ^ j + 4294967296 ^ j * D) = dgs 4294967296 j X := by
    rw [← dgs_mod j (X % 4294967296 ^ j + 4294967296 ^ j * D), Nat.add_mul_mod_self_left, Nat.mod_mod, dgs_mod]
  have e3 : ∀ Y Z, (dgs 4294967296 j X ++ (dgs 4294967296 n Y ++ dgs 4294967296 d Z)).drop (j + n) = dgs 4294967296 d Z := fun Y Z => by
    rw [← List.append_assoc, List.drop_left' (by rw [List.length_append, dgs_length, dgs_length])]
  unfold spl
  rw [dgs_append j (n + d) X, dgs_append n d, e3, List.take_left' (dgs_length _ _ _), Nat.div_div_eq_div_mul, ← Nat.pow_add, hX, dgs_append j (n + d), e1, e2, dgs_append n d, Nat.div_eq_of_lt hD]
theorem dm_facts {a m U V : Nat} (ha : blen a ≤ 100000) (hm : 2 ≤ blen m) (hma : blen m ≤ blen a) (hU0 : blen U ≤ blen a + 1) (hU1 : blen a ≤ blen U) (hV : blen V = blen m) :
    ∃ La Lq : Nat, IntKind.i64.wrap (((big a).length : Int) + 1) = (La : Int) ∧ (La < (big U).length) = False ∧ IntKind.i64.wrap ((La : Int) - ((big V).length : Int)) = (Lq : Int) ∧ IntKind.i64.wrap ((Lq : Int) - 1) = (Lq : Int) - 1 ∧
      (La = blen a + 1 ∧ Lq = La - blen m) ∧ La ≤ blen U + 1 ∧ La ≤ 100001 ∧ Lq ≤ La ∧ 0 < Lq := by
  refine ⟨blen a + 1, blen a + 1 - blen m, ?_, ?_, ?_, ?_, ⟨rfl, rfl⟩, by omega, by omega, by omega, by omega⟩
  · rw [i64_w, big_length, w64 (by omega) (by omega)]; omega
  · exact eq_false (by rw [big_length]; omega)
  · rw [i64_w, big_length, hV, w64 (by omega) (by omega)]; omega
  · rw [i64_w, w64 (by omega) (by omega)]
theorem dm_start {a m s : Nat} (hm0 : m ≠ 0) (hma : blen m ≤ blen a) : a * 2 ^ s < m * 2 ^ s * 4294967296 ^ (blen a + 1 - blen m) := by
  have h1 := blen_lt a
  have h2 := blen_ge hm0
  have h3 := blen_pos hm0
  have e : 4294967296 ^ blen a = 4294967296 ^ (blen m - 1) * 4294967296 ^ (blen a + 1 - blen m) := by rw [← Nat.pow_add]; congr 1; omega
  have h4 : a < m * 4294967296 ^ (blen a + 1 - blen m) := Nat.lt_of_lt_of_le (e ▸ h1) (Nat.mul_le_mul_right _ h2)
  calc a * 2 ^ s < m * 4294967296 ^ (blen a + 1 - blen m) * 2 ^ s := Nat.mul_lt_mul_of_pos_right h4 (Nat.pow_pos (by decide))
    _ = m * 2 ^ s * 4294967296 ^ (blen a + 1 - blen m) := by rw [Nat.mul_assoc, Nat.mul_assoc, Nat.mul_comm (2 ^ s)]
theorem dm_take {l : List Int} {U n : Nat} (hd : dgH l) (hn : n ≤ l.length) (hu : nH l = U) : l.take n = dgs 4294967296 n U :=
  dgs_eq (fun x hx => hd x (List.mem_of_mem_take hx)) (by rw [List.length_take]; omega) (by rw [num_take hd, show num 4294967296 l = U from hu, Nat.mod_mod])
theorem dm_qset {L j Q : Nat} (h : j + 1 ≤ L) (d : Int) (hd : d = ((Q / 4294967296 ^ j % 4294967296 : Nat) : Int)) :
    (List.replicate (j + 1) (0 : Int) ++ dgs 4294967296 (L - (j + 1)) (Q / 4294967296 ^ (j + 1))).set j d = List.replicate j 0 ++ dgs 4294967296 (L - j) (Q / 4294967296 ^ j) := by
  rw [List.replicate_succ', List.append_assoc, List.set_append_right _ _ (by simp), List.length_replicate, Nat.sub_self, show L - j = L - (j + 1) + 1 by omega, hd, Nat.pow_succ, ← Nat.div_div_eq_div_mul]
  rfl
theorem dm_piece {U V La n j : Nat} (hV : V < 4294967296 ^ n) (hV0 : 0 < V) (hj : j + (n + 1) ≤ La) :
    nH (((dgs 4294967296 La (U % (V * 4294967296 ^ (j + 1)))).drop j).take (n + 1)) = U % (V * 4294967296 ^ (j + 1)) / 4294967296 ^ j ∧ U % (V * 4294967296 ^ (j + 1)) / 4294967296 ^ j < V * 4294967296 := by
  have hp : 0 < 4294967296 ^ j := Nat.pow_pos (by decide)
  have h1 : U % (V * 4294967296 ^ (j + 1)) / 4294967296 ^ j < V * 4294967296 := by
    rw [Nat.div_lt_iff_lt_mul hp, Nat.mul_assoc, ← Nat.pow_succ']
    exact Nat.mod_lt _ (Nat.mul_pos hV0 (Nat.pow_pos (by decide)))
  refine ⟨?_, h1⟩
  rw [piece_dgs _ _ _ _ hj, nH, num_dgs, Nat.mod_eq_of_lt]
  refine Nat.lt_of_lt_of_le h1 ?_
  rw [Nat.pow_succ]
  exact Nat.mul_le_mul_right _ (Nat.le_of_lt hV)
theorem dm_spl {U V La n j : Nat} (hV : V < 4294967296 ^ n) (hV0 : 0 < V) (hj : j + (n + 1) ≤ La) :
    spl (dgs 4294967296 La (U % (V * 4294967296 ^ (j + 1)))) j (n + 1) (U % (V * 4294967296 ^ (j + 1)) / 4294967296 ^ j % V) = dgs 4294967296 La (U % (V * 4294967296 ^ j)) := by
  have hp : 0 < 4294967296 ^ j := Nat.pow_pos (by decide)
  have h1 := (dm_piece (U := U) hV hV0 hj).2
  have h2 : V ≤ 4294967296 ^ (n + 1) := Nat.le_trans (Nat.le_of_lt hV) (Nat.pow_le_pow_right (by decide) (by omega))
  rw [spl_dgs _ _ _ _ _ hj ?_ (Nat.lt_of_lt_of_le (Nat.mod_lt _ hV0) h2), dm_rest]
  rw [show 4294967296 ^ (j + (n + 1)) = 4294967296 ^ j * 4294967296 ^ (n + 1) from Nat.pow_add _ _ _, ← Nat.div_div_eq_div_mul]
  refine Nat.div_eq_of_lt (Nat.lt_of_lt_of_le h1 ?_)
  rw [Nat.pow_succ]
  exact Nat.mul_le_mul_right _ (Nat.le_of_lt hV)
theorem dm_nat {a m U V s : Nat} (h : a * 2 ^ s = U ∧ m * 2 ^ s = V) : U / V = a / m ∧ U % V / 2 ^ s = a % m := by
  obtain ⟨rfl, rfl⟩ := h
  have hp : 0 < 2 ^ s := Nat.pow_pos (by decide)
  exact ⟨Nat.mul_div_mul_right _ _ hp, by rw [Nat.mul_mod_mul_right, Nat.mul_div_cancel _ hp]⟩
end Go.Proofs.Ytalfniohakahlaa.X
end
