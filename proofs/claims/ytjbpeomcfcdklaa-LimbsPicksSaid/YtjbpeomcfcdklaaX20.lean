-- Written by a program of this session (wip/tools/rp.py) out of the translation and the hand texts. Lean checks it.
import Derived.Test.YtjbpeomcfcdklaaX0
import Derived.Test.YtjbpeomcfcdklaaX1
import Derived.Test.YtjbpeomcfcdklaaX5
import Derived.Test.YtjbpeomcfcdklaaX7
import Derived.Test.YtjbpeomcfcdklaaX9
import Derived.Test.YtjbpeomcfcdklaaX19
namespace Go.Proofs.Ytjbpeomcfcdklaa.X
open Go.RowKit Go.Proofs.YtjbpeomcfcdklaaW.PrintWords Go.Proofs.YtjbpeomcfcdklaaW.PrintLast Go.Proofs.YtjbpeomcfcdklaaW.PrintMore
attribute [local go_sem] max2_int min2_int max_two min_two max_three min_three max_four min_four   -- for this text's walks alone
set_option linter.unusedVariables false
set_option linter.unusedSimpArgs false

/-! ### limbs_Equal: function 55 -/
def orX (l1 l2 : List Int) : Nat → Int
  | 0 => 0
  | i + 1 => Go.bits .or .u64 (orX l1 l2 i) (Go.bits .xor .u64 (Ma.at0 l1 i) (Ma.at0 l2 i))
theorem orX_word {l1 l2 : List Int} (h1 : l1.all Ma.wd = true) (h2 : l2.all Ma.wd = true) : ∀ i, 0 ≤ orX l1 l2 i ∧ orX l1 l2 i < 18446744073709551616
  | 0 => by simp [orX]
  | i + 1 => by
    have h := orX_word h1 h2 i
    have x1 := Ma.at0_dg (by decide) (Ma.wds_dg.1 h1) i
    have x2 := Ma.at0_dg (by decide) (Ma.wds_dg.1 h2) i
    have hx := Ma.b_xor_lt x1.1 x1.2 x2.1 x2.2
    exact Ma.b_or_lt h.1 h.2 hx.1 hx.2
theorem orX_zero {l1 l2 : List Int} (h1 : l1.all Ma.wd = true) (h2 : l2.all Ma.wd = true) : ∀ n, orX l1 l2 n = 0 ↔ ∀ i, i < n → Ma.at0 l1 i = Ma.at0 l2 i
  | 0 => by simp [orX]
  | n + 1 => by
    have h := orX_word h1 h2 n
    have x1 := Ma.at0_dg (by decide) (Ma.wds_dg.1 h1) n
    have x2 := Ma.at0_dg (by decide) (Ma.wds_dg.1 h2) n
    have hx := Ma.b_xor_lt x1.1 x1.2 x2.1 x2.2
    rw [orX, Ma.b_or_zero h.1 h.2 hx.1 hx.2, orX_zero h1 h2 n, Ma.b_xor_zero x1.1 x1.2 x2.1 x2.2]
    constructor
    · rintro ⟨a, b⟩ i hi
      by_cases e : i = n
      · subst e; exact b
      · exact a i (by omega)
    · intro a; exact ⟨fun i hi => a i (by omega), a n (by omega)⟩
set_option maxRecDepth 100000 in
theorem limbs_Equal_1 (x y a : Int) (bk : Nat) (w : World) (hk : w.heap[bk]? = some (.cells #[.int .u64 a] 22 (0, 0))) :
    Calls Try.prog 75 #[.int .u64 x, .int .u64 y, .pointer (some ⟨bk, 0, none⟩)] w fun e w' => e = .returned (.int .u64 0) ∧ Upd w w' bk (.int .u64 (Go.bits .or .u64 a (Go.bits .xor .u64 x y))) 22 := by
  have ck := cell_of_one hk
  have fk := free_of_one hk
  have HK := Aside0.mk hk
  clear hk
  go_enter Try.func75, Try.ntmps75
  go_wp2
  go_ret
  exact ⟨rfl, Upd.put HK.out 0 _⟩
set_option maxHeartbeats 2000000 in
set_option maxRecDepth 100000 in
theorem limbs_each_Equal (n : Nat) (A1 A2 : Option Addr) (c1 c2 : Nat) (l1 l2 : List Int) (bk : Nat) (D cy : Nat → Int) (w0 w : World)
    (hr1 : Kd.C (Kd.int .u64) w0 A1 l1.length l1) (hc1 : l1.length ≤ c1) (hr2 : Kd.C (Kd.int .u64) w0 A2 l2.length l2) (hc2 : l2.length ≤ c2)
    (hn : (if l1.length < l2.length then (l2.length : Int) else (l1.length : Int)) = (n : Int)) (hn2 : n ≤ 35184372088832)
    (hB : Below w0.heap.size w0 w) (hbk : w0.heap.size ≤ bk) (hk : w.heap[bk]? = some (.cells #[.int .u64 (cy 0)] 22 (0, 0)))
    (hst : ∀ i, i < n → ∀ W : World, W.heap[bk]? = some (.cells #[.int .u64 (cy i)] 22 (0, 0)) →
      Calls Try.prog 75 #[.int .u64 (Ma.at0 l1 i), .int .u64 (Ma.at0 l2 i), .pointer (some ⟨bk, 0, none⟩)] W fun e W' => e = .returned (.int .u64 (D i)) ∧ Upd W W' bk (.int .u64 (cy (i + 1))) 22) :
    Calls Try.prog 71 #[.pointer none, .slice A1 l1.length c1, .slice A2 l2.length c2, .func (.func 75) #[] #[.pointer (some ⟨bk, 0, none⟩)]] w fun e w' =>
      ∃ v, e = .returned v ∧ Kd.R (Kd.int .u64) 22 w' w.heap.size (fun _ => True) v (Ma.mk D n) ∧ Below w0.heap.size w0 w' ∧ w'.heap[bk]? = some (.cells #[.int .u64 (cy n)] 22 (0, 0)) := by
  have HR1 := Aside0.mk hr1
  have HR2 := Aside0.mk hr2
  have HK := Aside0.mk hk
  have HB := Aside0.mk hB
  have HST := Aside0.mk hst
  have lbk := blk_lt hk
  clear hr1 hr2 hk hB hst
  go_enter Try.func71, Try.ntmps71
  go_wp2_with (first
    | (go_at_call 76; refine (trace_Trace_Span.calls _ _ rfl).mono ?_; rintro e w1 ⟨rfl, hb1⟩)
    | ((with_reducible refine gate_dst (N := 21) rfl ?_); refine Kd.R_make (Kd.int .u64) _ 22 rfl (N := 21) rfl 41 _ _ rfl (n : Int) rfl rfl Try.underlying41 (.int .u64 0) 8 info22 rfl (by decide) (by omega) 0 (ok := fun k_ => w.heap.size ≤ k_) (okp := fun k_ => w.heap.size ≤ k_) rfl (fun _ hk => hk) hb1.size (by omega) (by simp only [Int.toNat_natCast]; omega) (Below.refl _ _) (Nat.le_refl _) ?_; intro v2 w2 ho2 hb2 hg2 hnew2; clear hg2 hnew2; simp only [Int.toNat_natCast] at ho2; have HO := Aside0.mk (Kd.R_lower ho2 hb1.size); have HB2 := Aside0.mk (below_then hb1 hb1.size hb2); clear ho2 hb2 hb1; obtain ⟨Ao, co, eo⟩ := Kd.R_slice HO.out; rw [List.length_replicate] at eo; subst eo))
  have HB3 := Aside0.mk (below_then HB.out HB.out.size HB2.out)
  have HK3 := Aside0.mk ((HB2.out.block bk lbk).trans HK.out)
  clear HB HK
  obtain ⟨wB, hwB⟩ : ∃ q, q = w.heap.size := ⟨_, rfl⟩
  rw [← hwB] at HO lbk
  have HWB := Aside0.mk hwB
  clear hwB HB2
  go_loopg [23] (n + 1) (fun q v23 wr => ∃ i : Nat, i + q = n + 1 ∧ i ≤ n ∧ v23 = .int .i64 i ∧ Aside0 (Kd.R (Kd.int .u64) 22 wr wB (fun k_ => wB ≤ k_) (.slice Ao n co) (Ma.mk D i ++ List.replicate (n - i) 0)) ∧ Aside0 (Below w0.heap.size w0 wr) ∧ Aside0 (wr.heap[bk]? = some (.cells #[.int .u64 (cy i)] 22 (0, 0))))
  case atStart => exact ⟨0, by omega, by omega, rfl, ⟨by simpa [Ma.mk] using HO.out⟩, HB3, HK3⟩
  case round =>
    clear HB3 HK3 HO
    obtain ⟨i, hiq, hin, rfl, HO, HB, HK⟩ := hrel
    have hl := Ma.mk_full_length D hin
    cases gk with
    | zero => omega
    | succ k1 =>
      by_cases hlt : i < n
      · have d1 : decide ((i : Int) < (n : Int)) = true := decide_eq_true (by omega)
        have d2 : decide (i < n) = true := decide_eq_true hlt
        have HE := Aside0.mk hiq
        clear hiq
        go_wp2_with (first
          | ((with_reducible refine gate_callee (f := 77) rfl ?_); refine goesL_ (some 31) rfl rfl Try.func77 (by kernel_rfl) rfl #[.slice A1 l1.length c1, .int .i64 (i : Int)] rfl (by (try simp only [List.map_toArray, List.map_cons, List.map_nil]); first | done | rfl) ?_; (with_reducible refine (limbs_at.calls _ _ l1 (i : Int) (Ma.at0 l1 i) _ ?s1 hc1 (sp_limbs_at l1 i)).mono ?_); (case s1 => exact Kd.C_below HR1.out (pw_below_drewN HB.out 0)); rintro e w' ⟨rfl, ⟨nd, rfl⟩⟩; refine ⟨_, rfl, ?_⟩)
          | ((with_reducible refine gate_callee (f := 77) rfl ?_); refine goesL_ (some 34) rfl rfl Try.func77 (by kernel_rfl) rfl #[.slice A2 l2.length c2, .int .i64 (i : Int)] rfl (by (try simp only [List.map_toArray, List.map_cons, List.map_nil]); first | done | rfl) ?_; (with_reducible refine (limbs_at.calls _ _ l2 (i : Int) (Ma.at0 l2 i) _ ?s2 hc2 (sp_limbs_at l2 i)).mono ?_); (case s2 => exact Kd.C_below HR2.out (pw_below_drewN HB.out _)); rintro e w' ⟨rfl, ⟨nd2, rfl⟩⟩; refine ⟨_, rfl, ?_⟩))
        refine (HST.out i hlt _ (by exact HK.out)).mono ?_
        rintro e w3 ⟨rfl, hp⟩
        have HO3 := Aside0.mk (hp.row (Kd.R_drewN HO.out _) (fun k hk => by omega))
        have HK3 := Aside0.mk hp.at_
        have HB3 := Aside0.mk (hp.below (pw_below_drewN HB.out _) hbk)
        clear hp HO HK HB
        obtain ⟨go, co2, eo, gb, gl, cl, HG⟩ := Kd.R_form HO3.out (by rw [hl]; omega)
        rw [hl] at eo
        cases eo
        have p1 : (0 : Int) ≤ (i : Int) := by omega
        have q1 : (i : Int) < (n : Int) := by omega
        obtain ⟨hx, hf⟩ := Kd.R_celln 0 HO3.out (i : Int) p1 q1
        have hP := (Kd.R_putg HO3.out (i : Int) (D i)).1
        simp only [Int.toNat_natCast] at hx hf hP
        rw [Ma.mk_set D hlt] at hP
        have HP := Aside0.mk hP
        clear HG cl hP
        go_wp2_with ((with_reducible refine gate_store (t := 22) (p := 36) rfl ?_); refine store_event (t := 22) (p := 36) (v := ?vo) (w1 := (w3.setCell ⟨go, i, none⟩ (.int .u64 (D i)))) ?hg ?ho ?hn ?hr ?_; (case ho => rfl); (case hg => rfl); (case hn => rfl); (case hr => first | (go_simp; done) | (go_simp; rfl)); intro w4 hw; have HO4 := Aside0.mk (show Kd.R (Kd.int .u64) 22 w4 wB (fun k_ => wB ≤ k_) (.slice (some ⟨go, 0, none⟩) n co) (Ma.mk D (i + 1) ++ List.replicate (n - (i + 1)) 0) from by rw [hw]; exact HP.out); have HB4 := Aside0.mk (show Below w0.heap.size w0 w4 from by rw [hw]; exact below_set HB3.out (by omega)); have HK4 := Aside0.mk (show w4.heap[bk]? = some (.cells #[.int .u64 (cy (i + 1))] 22 (0, 0)) from by rw [hw]; exact blk_far HK3.out (by show bk ≠ go; omega) _); clear hw HP HO3 HB3 HK3 hx hf)
        go_roundg k1
        case measure => omega
        case rel => exact ⟨i + 1, by have := HE.out; omega, by omega, by go_num, HO4, HB4, HK4⟩
      · have hin' : i = n := by omega
        subst hin'
        have d1 : decide ((i : Int) < (i : Int)) = false := decide_eq_false (by omega)
        have d2 : decide (i < i) = false := decide_eq_false hlt
        go_wp2
        go_ret
        have h := HO.out
        rw [HWB.out] at h
        exact ⟨_, rfl, by simpa using Kd.R_mono h (fun _ _ => trivial), HB.out, HK.out⟩
def limbs_Equal.f (l1 l2 : List Int) : Option Int :=
  if max l1.length l2.length ≤ 35184372088832 ∧ l1.all Ma.wd = true ∧ l2.all Ma.wd = true then some (if Ma.vs 18446744073709551616 (Ma.at0 l1) (max l1.length l2.length) = Ma.vs 18446744073709551616 (Ma.at0 l2) (max l1.length l2.length) then 1 else 0) else none
theorem Equal_end {l1 l2 : List Int} {n : Nat} (h1 : l1.all Ma.wd = true) (h2 : l2.all Ma.wd = true) : word_Zero.f (orX l1 l2 n) = some (if Ma.vs 18446744073709551616 (Ma.at0 l1) n = Ma.vs 18446744073709551616 (Ma.at0 l2) n then 1 else 0) := by
  have h := orX_word h1 h2 n
  have hz : word_Zero.f (orX l1 l2 n) = some (if orX l1 l2 n = 0 then 1 else 0) := by
    generalize orX l1 l2 n = a at h
    unfold word_Zero.f; rw [Ma.wU]
    congr 1
    by_cases e : a = 0
    · subst e; rw [if_pos rfl]; rfl
    · rw [if_neg e]
      have e1 : (-a) % 18446744073709551616 = 18446744073709551616 - a := by omega
      rw [e1]
      have hg := Ma.b_or_ge h.1 h.2 (b := 18446744073709551616 - a) (by omega) (by omega)
      have hl := Ma.b_or_lt h.1 h.2 (b := 18446744073709551616 - a) (by omega) (by omega)
      have e2 : Go.bits .or .u64 a (18446744073709551616 - a) / 9223372036854775808 = 1 := by omega
      rw [e2]; rfl
  rw [hz]
  congr 1
  have e : orX l1 l2 n = 0 ↔ Ma.vs 18446744073709551616 (Ma.at0 l1) n = Ma.vs 18446744073709551616 (Ma.at0 l2) n := by
    rw [orX_zero h1 h2]
    exact ⟨fun h => Ma.vs_congr n h, fun h => Ma.vs_inj (by decide) n (fun i _ => Ma.at0_dg (by decide) (Ma.wds_dg.1 h1) i) (fun i _ => Ma.at0_dg (by decide) (Ma.wds_dg.1 h2) i) h⟩
  simp only [e]
set_option maxHeartbeats 2000000 in
set_option maxRecDepth 100000 in
theorem limbs_Equal.calls (A1 : Option Addr) (c1 : Nat) (l1 : List Int) (A2 : Option Addr) (c2 : Nat) (l2 : List Int) (r : Int) (w : World) (hr1 : Kd.C (Kd.int .u64) w A1 l1.length l1) (hc1 : l1.length ≤ c1) (hr2 : Kd.C (Kd.int .u64) w A2 l2.length l2) (hc2 : l2.length ≤ c2) (h : limbs_Equal.f l1 l2 = some r) :
    Calls Try.prog 55 #[.pointer none, .slice A1 l1.length c1, .slice A2 l2.length c2] w fun e w' => e = .returned (.int .u64 r) ∧ Below w.heap.size w w' := by
  unfold limbs_Equal.f at h
  split at h
  · rename_i hc
    obtain ⟨hn2, h2, h3⟩ := hc
    have h := Option.some.inj h
    have HZ := Aside0.mk (Equal_end (n := max l1.length l2.length) h2 h3)
    rw [h] at HZ
    clear h2 h3 h
    have HR1 := Aside0.mk hr1
    have HR2 := Aside0.mk hr2
    clear hr1 hr2
    obtain ⟨n, hn⟩ : ∃ n, n = max l1.length l2.length := ⟨_, rfl⟩
    rw [← hn] at hn2 HZ
    have HN := Aside0.mk hn
    clear hn
    obtain ⟨hb2, hb3⟩ := one_box w 0 (.int .u64 0) 22
    have HB2 := Aside0.mk hb2
    have HB3 := Aside0.mk hb3
    clear hb2 hb3
    have hx1 : (w.alloc (.cells #[.int .u64 0] 22)).cell? ⟨w.heap.size, 0, none⟩ = some (.int .u64 0) := (blk_cell (heap_alloc_new w _) 0).trans rfl
    have hx2 : (w.alloc (.cells #[.int .u64 0] 22)).frozen? ⟨w.heap.size, 0, none⟩ = false := blk_frozen (heap_alloc_new w _) 0
    go_enter Try.func55, Try.ntmps55
    go_wp2_with fail
    refine (limbs_each_Equal n A1 A2 c1 c2 l1 l2 w.heap.size (fun _ => 0) (orX l1 l2) w _ HR1.out hc1 HR2.out hc2 (by have := HN.out; split <;> omega) hn2 (by first | exact HB3.out | exact below_set HB3.out (Nat.le_refl _)) (Nat.le_refl _) (by first | exact HB2.out | exact one_setCell (u := .int .u64 0) HB2.out) (fun i _ W k2 => limbs_Equal_1 _ _ _ _ W k2)).mono ?_
    rintro e w3 ⟨v, rfl, hR, hB, hK⟩
    have HB := Aside0.mk hB
    have ck := cell_of_one hK
    clear hR hB hK hx1 hx2
    go_wp2_with (go_at_call 33; refine (word_Zero.calls _ r _ HZ.out).mono ?_; rintro e w' ⟨rfl, ⟨nd, rfl⟩⟩)
    go_ret
    exact ⟨rfl, pw_below_drewN HB.out _⟩
  · exact absurd h (by simp)

/-! ### sconceref04_Equal: function 56 -/
def sconceref04_Equal.f (k : Nat) (l0 : List Int) (l1 : List Int) : Option (Int) := (sconceref03_Of.f k l0).bind fun t351 => ((sconceref03_Of.f k l1).bind fun t354 => ((sconceref03_Cmp.f k t351 t354).bind fun t357 => ((sconceref01_One.f (t357 == 0)).bind fun t358 => (some t358))))
theorem sconceref04_Equal.mono : ∀ a0 a1 k, LeO (sconceref04_Equal.f k a0 a1) (sconceref04_Equal.f (k + 1) a0 a1) := by
  intro a0 a1 k
  unfold sconceref04_Equal.f
  repeat' first
      | (with_reducible exact sconceref03_Cmp.mono _ _ _)
      | (with_reducible exact sconceref03_Of.mono _ _)
      | (with_reducible exact LeO.refl _)
      | (with_reducible exact LeO.none _)
      | (with_reducible refine LeO.ite ?_ ?_)
      | (with_reducible refine LeO.bind ?_ (fun _ => ?_))
      | exact sconceref03_Cmp.mono _ _ _
      | exact sconceref03_Of.mono _ _
      | exact LeO.none _
      | refine LeO.ite ?_ ?_
      | refine LeO.bind ?_ (fun _ => ?_)
set_option maxHeartbeats 8000000 in
set_option maxRecDepth 100000 in
theorem sconceref04_Equal.calls (k : Nat) (A0 : Option Addr) (c0 : Nat) (l0 : List Int) (A1 : Option Addr) (c1 : Nat) (l1 : List Int) (r : Int) (w : World) (hr0 : Kd.C (Kd.int .u64) w A0 l0.length l0) (hc0 : l0.length ≤ c0) (hr1 : Kd.C (Kd.int .u64) w A1 l1.length l1) (hc1 : l1.length ≤ c1) (h : sconceref04_Equal.f k l0 l1 = some r) :
    Calls Try.prog 56 #[.slice A0 l0.length c0, .slice A1 l1.length c1] w fun e w' => e = .returned (.int .u64 r) ∧ Below w.heap.size w w' := by
  have HR0 := Aside0.mk hr0
  have HC0 := Aside0.mk hc0
  clear hr0 hc0
  have HR1 := Aside0.mk hr1
  have HC1 := Aside0.mk hc1
  clear hr1 hc1
  have HB := Aside0.mk (Below.refl w.heap.size w)
  have H : ((sconceref03_Of.f k l0).bind fun t351 => ((sconceref03_Of.f k l1).bind fun t354 => ((sconceref03_Cmp.f k t351 t354).bind fun t357 => ((sconceref01_One.f (t357 == 0)).bind fun t358 => (some t358))))) = some r := h
  clear h
  replace H := Option.bind_eq_some_iff.mp H
  obtain ⟨t351, A30, H⟩ := H
  replace H : ((sconceref03_Of.f k l1).bind fun t354 => ((sconceref03_Cmp.f k t351 t354).bind fun t357 => ((sconceref01_One.f (t357 == 0)).bind fun t358 => (some t358)))) = some r := H
  have A3 := Aside0.mk A30
  clear A30
  replace H := Option.bind_eq_some_iff.mp H
  obtain ⟨t354, A40, H⟩ := H
  replace H : ((sconceref03_Cmp.f k t351 t354).bind fun t357 => ((sconceref01_One.f (t357 == 0)).bind fun t358 => (some t358))) = some r := H
  have A4 := Aside0.mk A40
  clear A40
  replace H := Option.bind_eq_some_iff.mp H
  obtain ⟨t357, A50, H⟩ := H
  replace H : ((sconceref01_One.f (t357 == 0)).bind fun t358 => (some t358)) = some r := H
  have A5 := Aside0.mk A50
  clear A50
  replace H := Option.bind_eq_some_iff.mp H
  obtain ⟨t358, A60, H⟩ := H
  replace H : (some t358) = some r := H
  have A6 := Aside0.mk A60
  clear A60
  obtain rfl := Option.some.inj H
  go_enter Try.func56, Try.ntmps56
  go_wp2_with (first | ((with_reducible refine gate_callee (f := 66) rfl ?_); refine goesL_ (some 6) rfl rfl Try.func66 (by kernel_rfl) rfl #[.slice A0 l0.length c0] rfl (by (try simp only [List.map_toArray, List.map_cons, List.map_nil]); first | done | rfl | (simp only [List.length_drop, List.length_take]; rfl)) ?_; (with_reducible refine (sconceref03_Of.calls k _ _ l0 t351 _ ?side1 ?side2 A3.out).mono ?_); (case side1 => repeat (first | exact HR0.out | (with_reducible refine Kd.C_alloc ?_ _) | (with_reducible refine Kd.C_drewN ?_ _) | (with_reducible refine Kd.C_drew ?_))); (case side2 => exact HC0.out); rintro e w7 ⟨v352, rfl, ho0, hb⟩; refine ⟨_, rfl, ?_⟩; have n0_ := Aside0.mk (Kd.V_lower (Kd.V_mono (ok' := fun k_ => True) ho0 (fun k_ hk_ => trivial)) (below_size (by repeat (first | (with_reducible first | exact HB.out | apply below_alloc | apply pw_below_drewN | apply below_drew1) | exact HB.out)))); have n1_ := Aside0.mk (below_step (by repeat (first | (with_reducible first | exact HB.out | apply below_alloc | apply pw_below_drewN | apply below_drew1) | exact HB.out)) hb); clear HB; have HO353 := n0_; have HB := n1_; clear n0_ n1_; (try clear hb); (try clear hb2); (try clear hk); (try clear hi); (try clear ho0)) | ((with_reducible refine gate_callee (f := 66) rfl ?_); refine goesL_ (some 8) rfl rfl Try.func66 (by kernel_rfl) rfl #[.slice A1 l1.length c1] rfl (by (try simp only [List.map_toArray, List.map_cons, List.map_nil]); first | done | rfl | (simp only [List.length_drop, List.length_take]; rfl)) ?_; (with_reducible refine (sconceref03_Of.calls k _ _ l1 t354 _ ?side1 ?side2 A4.out).mono ?_); (case side1 => repeat (first | exact (Kd.C_below HR1.out HB.out) | (with_reducible refine Kd.C_alloc ?_ _) | (with_reducible refine Kd.C_drewN ?_ _) | (with_reducible refine Kd.C_drew ?_))); (case side2 => exact HC1.out); rintro e w8 ⟨v355, rfl, ho0, hb⟩; refine ⟨_, rfl, ?_⟩; have n0_ := Aside0.mk (Kd.V_below (by (with_reducible repeat (first | apply Kd.V_alloc | apply Kd.V_drewN | apply Kd.V_drew)); exact HO353.out) hb); have n1_ := Aside0.mk (Kd.V_lower (Kd.V_mono (ok' := fun k_ => True) ho0 (fun k_ hk_ => trivial)) (below_size (by repeat (first | (with_reducible first | exact HB.out | apply below_alloc | apply pw_below_drewN | apply below_drew1) | exact HB.out)))); have n2_ := Aside0.mk (below_step (by repeat (first | (with_reducible first | exact HB.out | apply below_alloc | apply pw_below_drewN | apply below_drew1) | exact HB.out)) hb); clear HO353; clear HB; have HO353 := n0_; have HO356 := n1_; have HB := n2_; clear n0_ n1_ n2_; (try clear hb); (try clear hb2); (try clear hk); (try clear hi); (try clear ho0); obtain ⟨Ao9, co9, eo9⟩ := Kd.V_slice HO353.out; subst eo9; obtain ⟨Ao10, co10, eo10⟩ := Kd.V_slice HO356.out; subst eo10) | ((with_reducible refine gate_callee (f := 68) rfl ?_); refine goesL_ (some 9) rfl rfl Try.func68 (by kernel_rfl) rfl #[.slice Ao9 t351.length co9, .slice Ao10 t354.length co10] rfl (by (try simp only [List.map_toArray, List.map_cons, List.map_nil]); first | done | rfl | (simp only [List.length_drop, List.length_take]; rfl)) ?_; (with_reducible refine (sconceref03_Cmp.calls k _ _ t351 _ _ t354 t357 _ ?side1 ?side2 ?side3 ?side4 A5.out).mono ?_); (case side1 => repeat (first | exact (Kd.V_reads' HO353.out).2.2 | (with_reducible refine Kd.C_alloc ?_ _) | (with_reducible refine Kd.C_drewN ?_ _) | (with_reducible refine Kd.C_drew ?_))); (case side2 => exact (Kd.V_reads' HO353.out).2.1); (case side3 => repeat (first | exact (Kd.V_reads' HO356.out).2.2 | (with_reducible refine Kd.C_alloc ?_ _) | (with_reducible refine Kd.C_drewN ?_ _) | (with_reducible refine Kd.C_drew ?_))); (case side4 => exact (Kd.V_reads' HO356.out).2.1); rintro e w' ⟨rfl, ⟨nd, rfl⟩⟩; refine ⟨_, rfl, ?_⟩) | ((with_reducible refine gate_callee (f := 31) rfl ?_); refine goesL_ (some 11) rfl rfl Try.func31 (by kernel_rfl) rfl #[.bool (t357 == 0)] rfl (by (try simp only [List.map_toArray, List.map_cons, List.map_nil]); first | done | rfl | (simp only [List.length_drop, List.length_take]; rfl)) ?_; (with_reducible refine (sconceref01_One.calls (t357 == 0) t358 _ A6.out).mono ?_); rintro e w' ⟨rfl, ⟨nd, rfl⟩⟩; refine ⟨_, rfl, ?_⟩))
  go_ret
  exact ⟨by first | rfl | (simp [errW_none, errW_some] <;> rfl) | (simp [*, errW_none, errW_some] <;> rfl), by repeat (first | (with_reducible first | exact HB.out | apply below_alloc | apply pw_below_drewN | apply below_drew1) | exact HB.out)⟩

/-! ### limbs_Zero: function 57 -/
def limbs_Zero.f  (l1 : List Int) : Option (Int) := (limbs_Equal.f l1 ([] : List Int)).bind fun t359 => (some t359)
set_option maxHeartbeats 8000000 in
set_option maxRecDepth 100000 in
theorem limbs_Zero.calls  (A1 : Option Addr) (c1 : Nat) (l1 : List Int) (r : Int) (w : World) (hr1 : Kd.C (Kd.int .u64) w A1 l1.length l1) (hc1 : l1.length ≤ c1) (h : limbs_Zero.f l1 = some r) :
    Calls Try.prog 57 #[.pointer none, .slice A1 l1.length c1] w fun e w' => e = .returned (.int .u64 r) ∧ Below w.heap.size w w' := by
  have HR1 := Aside0.mk hr1
  have HC1 := Aside0.mk hc1
  clear hr1 hc1
  have HB := Aside0.mk (Below.refl w.heap.size w)
  have H : ((limbs_Equal.f l1 ([] : List Int)).bind fun t359 => (some t359)) = some r := h
  clear h
  replace H := Option.bind_eq_some_iff.mp H
  obtain ⟨t359, A30, H⟩ := H
  replace H : (some t359) = some r := H
  have A3 := Aside0.mk A30
  clear A30
  obtain rfl := Option.some.inj H
  go_enter Try.func57, Try.ntmps57
  go_wp2_with (first | ((with_reducible refine gate_callee (f := 55) rfl ?_); refine goesL_ (some 7) rfl rfl Try.func55 (by kernel_rfl) rfl #[.pointer none, .slice A1 l1.length c1, .slice none 0 0] rfl (by (try simp only [List.map_toArray, List.map_cons, List.map_nil]); first | done | rfl | (simp only [List.length_drop, List.length_take]; rfl)) ?_; (refine (limbs_Equal.calls  _ _ l1 _ _ ([] : List Int) t359 _ ?side1 ?side2 ?side3 ?side4 A3.out).mono ?_); (case side1 => repeat (first | exact HR1.out | (with_reducible refine Kd.C_alloc ?_ _) | (with_reducible refine Kd.C_drewN ?_ _) | (with_reducible refine Kd.C_drew ?_))); (case side2 => exact HC1.out); (case side3 => exact Kd.C_nil _ _); (case side4 => exact Nat.le_refl _); rintro e w4 ⟨rfl, hb⟩; refine ⟨_, rfl, ?_⟩; have n0_ := Aside0.mk (below_step (by repeat (first | (with_reducible first | exact HB.out | apply below_alloc | apply pw_below_drewN | apply below_drew1) | exact HB.out)) hb); clear HB; have HB := n0_; clear n0_; (try clear hb); (try clear hb2); (try clear hk); (try clear hi)))
  go_ret
  exact ⟨by first | rfl | (simp [errW_none, errW_some] <;> rfl) | (simp [*, errW_none, errW_some] <;> rfl), by repeat (first | (with_reducible first | exact HB.out | apply below_alloc | apply pw_below_drewN | apply below_drew1) | exact HB.out)⟩

end Go.Proofs.Ytjbpeomcfcdklaa.X
