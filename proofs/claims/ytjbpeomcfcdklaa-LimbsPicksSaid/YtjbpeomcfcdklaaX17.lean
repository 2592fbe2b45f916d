-- Written by a program of this session (wip/tools/rp.py) out of the translation and the hand texts. Lean checks it.
import Derived.Test.YtjbpeomcfcdklaaX0
import Derived.Test.YtjbpeomcfcdklaaX1
namespace Go.Proofs.Ytjbpeomcfcdklaa.X
open Go.RowKit Go.Proofs.YtjbpeomcfcdklaaW.PrintWords Go.Proofs.YtjbpeomcfcdklaaW.PrintLast Go.Proofs.YtjbpeomcfcdklaaW.PrintMore
attribute [local go_sem] max2_int min2_int max_two min_two max_three min_three max_four min_four   -- for this text's walks alone
set_option linter.unusedVariables false
set_option linter.unusedSimpArgs false

/-! ### word_Select: function 24 -/
def word_Select.f (a0 : Int) (a1 : Int) (a2 : Int) : Option (Int) := (word_Mask.f a0).bind fun t326 => (some (Go.bits .or .u64 (Go.bits .and .u64 a1 t326) (Go.bits .andNot .u64 a2 t326)))
set_option maxHeartbeats 8000000 in
set_option maxRecDepth 100000 in
theorem word_Select.calls (a0 : Int) (a1 : Int) (a2 : Int) (r : Int) (w : World) (h : word_Select.f a0 a1 a2 = some r) :
    Calls Try.prog 24 #[.int .u64 a0, .int .u64 a1, .int .u64 a2] w fun e w' => e = .returned (.int .u64 r) ∧ Drawn0 w w' := by
  have H : ((word_Mask.f a0).bind fun t326 => (some (Go.bits .or .u64 (Go.bits .and .u64 a1 t326) (Go.bits .andNot .u64 a2 t326)))) = some r := h
  clear h
  replace H := Option.bind_eq_some_iff.mp H
  obtain ⟨t326, A40, H⟩ := H
  replace H : (some (Go.bits .or .u64 (Go.bits .and .u64 a1 t326) (Go.bits .andNot .u64 a2 t326))) = some r := H
  have A4 := Aside0.mk A40
  clear A40
  obtain rfl := Option.some.inj H
  go_enter Try.func24, Try.ntmps24
  go_wp2_with (first | ((with_reducible refine gate_callee (f := 22) rfl ?_); refine goesL_ (some 9) rfl rfl Try.func22 (by kernel_rfl) rfl #[.int .u64 a0] rfl (by (try simp only [List.map_toArray, List.map_cons, List.map_nil]); first | done | rfl | (simp only [List.length_drop, List.length_take]; rfl)) ?_; (with_reducible refine (word_Mask.calls a0 t326 _ A4.out).mono ?_); rintro e w' ⟨rfl, ⟨nd, rfl⟩⟩; refine ⟨_, rfl, ?_⟩))
  go_ret
  exact ⟨by first | rfl | (simp; done) | (simp [*]; done), by repeat (first | exact Drawn0.refl _ | apply Drawn0.step)⟩

/-! ### limbs_Select: function 51 -/
-- CALLS sconce/word.Select sconce/limbs.at sconce/limbs.each
set_option maxRecDepth 100000 in
theorem limbs_Select_1 (x y b r : Int) (bk : Nat) (w : World) (hk : w.heap[bk]? = some (.cells #[.int .u64 b] 22 (0, 0))) (h : word_Select.f b x y = some r) :
    Calls Try.prog 74 #[.int .u64 x, .int .u64 y, .pointer (some ⟨bk, 0, none⟩)] w fun e w' => e = .returned (.int .u64 r) ∧ Upd w w' bk (.int .u64 b) 22 := by
  have ck := cell_of_one hk
  have HK := Aside0.mk hk
  clear hk
  have H := Aside0.mk h
  clear h
  go_enter Try.func74, Try.ntmps74
  go_wp2_with (go_at_call 24; refine (word_Select.calls _ _ _ r _ H.out).mono ?_; rintro e w' ⟨rfl, ⟨n, rfl⟩⟩)
  go_ret
  exact ⟨rfl, Upd.same HK.out _⟩
set_option maxHeartbeats 2000000 in
set_option maxRecDepth 100000 in
theorem limbs_each_Select (n : Nat) (A1 A2 : Option Addr) (c1 c2 : Nat) (l1 l2 : List Int) (bk : Nat) (D cy : Nat → Int) (w0 w : World)
    (hr1 : Kd.C (Kd.int .u64) w0 A1 l1.length l1) (hc1 : l1.length ≤ c1) (hr2 : Kd.C (Kd.int .u64) w0 A2 l2.length l2) (hc2 : l2.length ≤ c2)
    (hn : (if l1.length < l2.length then (l2.length : Int) else (l1.length : Int)) = (n : Int)) (hn2 : n ≤ 35184372088832)
    (hB : Below w0.heap.size w0 w) (hbk : w0.heap.size ≤ bk) (hk : w.heap[bk]? = some (.cells #[.int .u64 (cy 0)] 22 (0, 0)))
    (hst : ∀ i, i < n → ∀ W : World, W.heap[bk]? = some (.cells #[.int .u64 (cy i)] 22 (0, 0)) →
      Calls Try.prog 74 #[.int .u64 (Ma.at0 l1 i), .int .u64 (Ma.at0 l2 i), .pointer (some ⟨bk, 0, none⟩)] W fun e W' => e = .returned (.int .u64 (D i)) ∧ Upd W W' bk (.int .u64 (cy (i + 1))) 22) :
    Calls Try.prog 71 #[.pointer none, .slice A1 l1.length c1, .slice A2 l2.length c2, .func (.func 74) #[] #[.pointer (some ⟨bk, 0, none⟩)]] w fun e w' =>
      ∃ v, e = .returned v ∧ Kd.R (Kd.int .u64) 22 w' w.heap.size (fun _ => True) v (Ma.mk D n) ∧ Below w0.heap.size w0 w' ∧ w'.heap[bk]? = some (.cells #[.int .u64 (cy n)] 22 (0, 0)) := by
  have HR1 := Aside0.mk hr1
  have HR2 := Aside0.mk hr2
  have HK := Aside0.mk hk
  have HB := Aside0.mk hB
  have HST := Aside0.mk hst
  have lbk := blk_lt hk
  clear hr1 hr2 hk hB hst
  go_enter Try.func71, Try.ntmps71
  go_wp2_with (first
    | (go_at_call 76; refine (trace_Trace_Span.calls _ _ rfl).mono ?_; rintro e w1 ⟨rfl, hb1⟩)
    | ((with_reducible refine gate_dst (N := 21) rfl ?_); refine Kd.R_make (Kd.int .u64) _ 22 rfl (N := 21) rfl 41 _ _ rfl (n : Int) rfl rfl Try.underlying41 (.int .u64 0) 8 info22 rfl (by decide) (by omega) 0 (ok := fun k_ => w.heap.size ≤ k_) (okp := fun k_ => w.heap.size ≤ k_) rfl (fun _ hk => hk) hb1.size (by omega) (by simp only [Int.toNat_natCast]; omega) (Below.refl _ _) (Nat.le_refl _) ?_; intro v2 w2 ho2 hb2 hg2 hnew2; clear hg2 hnew2; simp only [Int.toNat_natCast] at ho2; have HO := Aside0.mk (Kd.R_lower ho2 hb1.size); have HB2 := Aside0.mk (below_then hb1 hb1.size hb2); clear ho2 hb2 hb1; obtain ⟨Ao, co, eo⟩ := Kd.R_slice HO.out; rw [List.length_replicate] at eo; subst eo))
  have HB3 := Aside0.mk (below_then HB.out HB.out.size HB2.out)
  have HK3 := Aside0.mk ((HB2.out.block bk lbk).trans HK.out)
  clear HB HK
  obtain ⟨wB, hwB⟩ : ∃ q, q = w.heap.size := ⟨_, rfl⟩
  rw [← hwB] at HO lbk
  have HWB := Aside0.mk hwB
  clear hwB HB2
  go_loopg [23] (n + 1) (fun q v23 wr => ∃ i : Nat, i + q = n + 1 ∧ i ≤ n ∧ v23 = .int .i64 i ∧ Aside0 (Kd.R (Kd.int .u64) 22 wr wB (fun k_ => wB ≤ k_) (.slice Ao n co) (Ma.mk D i ++ List.replicate (n - i) 0)) ∧ Aside0 (Below w0.heap.size w0 wr) ∧ Aside0 (wr.heap[bk]? = some (.cells #[.int .u64 (cy i)] 22 (0, 0))))
  case atStart => exact ⟨0, by omega, by omega, rfl, ⟨by simpa [Ma.mk] using HO.out⟩, HB3, HK3⟩
  case round =>
    clear HB3 HK3 HO
    obtain ⟨i, hiq, hin, rfl, HO, HB, HK⟩ := hrel
    have hl := Ma.mk_full_length D hin
    cases gk with
    | zero => omega
    | succ k1 =>
      by_cases hlt : i < n
      · have d1 : decide ((i : Int) < (n : Int)) = true := decide_eq_true (by omega)
        have d2 : decide (i < n) = true := decide_eq_true hlt
        have HE := Aside0.mk hiq
        clear hiq
        go_wp2_with (first
          | ((with_reducible refine gate_callee (f := 77) rfl ?_); refine goesL_ (some 31) rfl rfl Try.func77 (by kernel_rfl) rfl #[.slice A1 l1.length c1, .int .i64 (i : Int)] rfl (by (try simp only [List.map_toArray, List.map_cons, List.map_nil]); first | done | rfl) ?_; (with_reducible refine (limbs_at.calls _ _ l1 (i : Int) (Ma.at0 l1 i) _ ?s1 hc1 (sp_limbs_at l1 i)).mono ?_); (case s1 => exact Kd.C_below HR1.out (pw_below_drewN HB.out 0)); rintro e w' ⟨rfl, ⟨nd, rfl⟩⟩; refine ⟨_, rfl, ?_⟩)
          | ((with_reducible refine gate_callee (f := 77) rfl ?_); refine goesL_ (some 34) rfl rfl Try.func77 (by kernel_rfl) rfl #[.slice A2 l2.length c2, .int .i64 (i : Int)] rfl (by (try simp only [List.map_toArray, List.map_cons, List.map_nil]); first | done | rfl) ?_; (with_reducible refine (limbs_at.calls _ _ l2 (i : Int) (Ma.at0 l2 i) _ ?s2 hc2 (sp_limbs_at l2 i)).mono ?_); (case s2 => exact Kd.C_below HR2.out (pw_below_drewN HB.out _)); rintro e w' ⟨rfl, ⟨nd2, rfl⟩⟩; refine ⟨_, rfl, ?_⟩))
        refine (HST.out i hlt _ (by exact HK.out)).mono ?_
        rintro e w3 ⟨rfl, hp⟩
        have HO3 := Aside0.mk (hp.row (Kd.R_drewN HO.out _) (fun k hk => by omega))
        have HK3 := Aside0.mk hp.at_
        have HB3 := Aside0.mk (hp.below (pw_below_drewN HB.out _) hbk)
        clear hp HO HK HB
        obtain ⟨go, co2, eo, gb, gl, cl, HG⟩ := Kd.R_form HO3.out (by rw [hl]; omega)
        rw [hl] at eo
        cases eo
        have p1 : (0 : Int) ≤ (i : Int) := by omega
        have q1 : (i : Int) < (n : Int) := by omega
        obtain ⟨hx, hf⟩ := Kd.R_celln 0 HO3.out (i : Int) p1 q1
        have hP := (Kd.R_putg HO3.out (i : Int) (D i)).1
        simp only [Int.toNat_natCast] at hx hf hP
        rw [Ma.mk_set D hlt] at hP
        have HP := Aside0.mk hP
        clear HG cl hP
        go_wp2_with ((with_reducible refine gate_store (t := 22) (p := 36) rfl ?_); refine store_event (t := 22) (p := 36) (v := ?vo) (w1 := (w3.setCell ⟨go, i, none⟩ (.int .u64 (D i)))) ?hg ?ho ?hn ?hr ?_; (case ho => rfl); (case hg => rfl); (case hn => rfl); (case hr => first | (go_simp; done) | (go_simp; rfl)); intro w4 hw; have HO4 := Aside0.mk (show Kd.R (Kd.int .u64) 22 w4 wB (fun k_ => wB ≤ k_) (.slice (some ⟨go, 0, none⟩) n co) (Ma.mk D (i + 1) ++ List.replicate (n - (i + 1)) 0) from by rw [hw]; exact HP.out); have HB4 := Aside0.mk (show Below w0.heap.size w0 w4 from by rw [hw]; exact below_set HB3.out (by omega)); have HK4 := Aside0.mk (show w4.heap[bk]? = some (.cells #[.int .u64 (cy (i + 1))] 22 (0, 0)) from by rw [hw]; exact blk_far HK3.out (by show bk ≠ go; omega) _); clear hw HP HO3 HB3 HK3 hx hf)
        go_roundg k1
        case measure => omega
        case rel => exact ⟨i + 1, by have := HE.out; omega, by omega, by go_num, HO4, HB4, HK4⟩
      · have hin' : i = n := by omega
        subst hin'
        have d1 : decide ((i : Int) < (i : Int)) = false := decide_eq_false (by omega)
        have d2 : decide (i < i) = false := decide_eq_false hlt
        go_wp2
        go_ret
        have h := HO.out
        rw [HWB.out] at h
        exact ⟨_, rfl, by simpa using Kd.R_mono h (fun _ _ => trivial), HB.out, HK.out⟩
def limbs_Select.f (a1 : Int) (l2 l3 : List Int) : Option (List Int) :=
  if (Ma.wd a1 = true ∧ max l2.length l3.length ≤ 35184372088832) ∧ l2.all Ma.wd = true ∧ l3.all Ma.wd = true then some (Ma.mk (Ma.at0 (if a1 % 2 = 1 then l2 else l3)) (max l2.length l3.length)) else none
theorem mask_val_Select {a : Int} (ha : Ma.wd a = true) : word_Mask.f a = some (if a % 2 = 1 then 18446744073709551615 else 0) := by
  rw [Ma.wd_iff] at ha
  unfold word_Mask.f; rw [Ma.b_and1 ha.1 ha.2, Ma.wU]
  congr 1; split <;> omega
theorem Select_step {a1 : Int} {l2 l3 : List Int} (h1 : Ma.wd a1 = true) (h2 : l2.all Ma.wd = true) (h3 : l3.all Ma.wd = true) (i : Nat) :
    word_Select.f a1 (Ma.at0 l2 i) (Ma.at0 l3 i) = some (Ma.at0 (if a1 % 2 = 1 then l2 else l3) i) := by
  have x2 := Ma.at0_dg (by decide) (Ma.wds_dg.1 h2) i
  have x3 := Ma.at0_dg (by decide) (Ma.wds_dg.1 h3) i
  unfold word_Select.f; rw [mask_val_Select h1]
  simp only [Option.bind_some]
  congr 1
  split
  · rw [Ma.b_and_all x2.1 x2.2, Ma.b_andNot_all x3.1 x3.2, Ma.b_or_0 x2.1 x2.2]
  · rw [Ma.b_and_0 x2.1 x2.2, Ma.b_andNot_0 x3.1 x3.2, Ma.b_0_or x3.1 x3.2]
set_option maxHeartbeats 2000000 in
set_option maxRecDepth 100000 in
theorem limbs_Select.calls (a1 : Int) (A2 : Option Addr) (c2 : Nat) (l2 : List Int) (A3 : Option Addr) (c3 : Nat) (l3 : List Int) (r : List Int) (w : World) (hr2 : Kd.C (Kd.int .u64) w A2 l2.length l2) (hc2 : l2.length ≤ c2) (hr3 : Kd.C (Kd.int .u64) w A3 l3.length l3) (hc3 : l3.length ≤ c3) (h : limbs_Select.f a1 l2 l3 = some r) :
    Calls Try.prog 51 #[.pointer none, .int .u64 a1, .slice A2 l2.length c2, .slice A3 l3.length c3] w fun e w' => ∃ v0_ : Value, e = .returned (v0_) ∧ Kd.R (Kd.int .u64) 22 w' w.heap.size (fun _ => True) v0_ r ∧ Below w.heap.size w w' := by
  unfold limbs_Select.f at h
  split at h
  · rename_i hc
    obtain ⟨⟨h1, hn2⟩, h2, h3⟩ := hc
    obtain rfl := Option.some.inj h
    have hst := Select_step h1 h2 h3
    obtain ⟨D, hD⟩ : ∃ D : Nat → Int, D = Ma.at0 (if a1 % 2 = 1 then l2 else l3) := ⟨_, rfl⟩
    simp only [← hD] at hst ⊢
    have HST := Aside0.mk hst
    clear h1 h2 h3 h hst hD
    have HR2 := Aside0.mk hr2
    have HR3 := Aside0.mk hr3
    clear hr2 hr3
    obtain ⟨n, hn⟩ : ∃ n, n = max l2.length l3.length := ⟨_, rfl⟩
    rw [← hn] at hn2 ⊢
    have HN := Aside0.mk hn
    clear hn
    obtain ⟨hb2, hb3⟩ := one_box w 0 (.int .u64 a1) 22
    have HB2 := Aside0.mk hb2
    have HB3 := Aside0.mk hb3
    clear hb2 hb3
    go_enter Try.func51, Try.ntmps51
    go_wp2_with fail
    refine (limbs_each_Select n A2 A3 c2 c3 l2 l3 w.heap.size D (fun _ => a1) w _ HR2.out hc2 HR3.out hc3 (by have := HN.out; split <;> omega) hn2 (by exact HB3.out) (Nat.le_refl _) (by exact HB2.out) (fun i _ W k2 => limbs_Select_1 _ _ a1 _ _ W k2 (HST.out i))).mono ?_
    rintro e w3 ⟨v, rfl, hR, hB, hK⟩
    have hz := below_size HB3.out
    have HR := Aside0.mk (Kd.R_lower hR hz)
    have HB := Aside0.mk hB
    clear hR hB hz hK
    go_wp2
    go_ret
    exact ⟨v, rfl, HR.out, HB.out⟩
  · exact absurd h (by simp)

end Go.Proofs.Ytjbpeomcfcdklaa.X
