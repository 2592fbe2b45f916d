-- Written by a program of this session (wip/tools/rp.py) out of the translation and the hand texts. Lean checks it.
import Derived.Test.YtjbpeomcfcdklaaX0
namespace Go.Proofs.Ytjbpeomcfcdklaa.X
open Go.RowKit Go.Proofs.YtjbpeomcfcdklaaW.PrintWords Go.Proofs.YtjbpeomcfcdklaaW.PrintLast Go.Proofs.YtjbpeomcfcdklaaW.PrintMore
attribute [local go_sem] max2_int min2_int max_two min_two max_three min_three max_four min_four   -- for this text's walks alone
set_option linter.unusedVariables false
set_option linter.unusedSimpArgs false

/-! ### sconceref01_One: function 31 -/
def sconceref01_One.f (a0 : Bool) : Option (Int) := if a0 = true then (some 1) else (some 0)
set_option maxHeartbeats 8000000 in
set_option maxRecDepth 100000 in
theorem sconceref01_One.calls (a0 : Bool) (r : Int) (w : World) (h : sconceref01_One.f a0 = some r) :
    Calls Try.prog 31 #[.bool a0] w fun e w' => e = .returned (.int .u64 r) ∧ Drawn0 w w' := by
  have H : (if a0 = true then (some 1) else (some 0)) = some r := h
  clear h
  by_cases c2 : a0 = true
  · subst c2
    have H1 : (some 1) = some r := by rw [if_pos rfl] at H; exact H
    clear H
    have H := H1
    clear H1
    obtain rfl := Option.some.inj H
    go_enter Try.func31, Try.ntmps31
    go_wp2
    go_ret
    exact ⟨by first | rfl | (simp; done) | (simp [*]; done), by repeat (first | exact Drawn0.refl _ | apply Drawn0.step)⟩
  · replace c2 := Bool.eq_false_iff.mpr c2
    subst c2
    have H1 : (some 0) = some r := by rw [if_neg (show ¬ (false = true) by decide)] at H; exact H
    clear H
    have H := H1
    clear H1
    obtain rfl := Option.some.inj H
    go_enter Try.func31, Try.ntmps31
    go_wp2
    go_ret
    exact ⟨by first | rfl | (simp; done) | (simp [*]; done), by repeat (first | exact Drawn0.refl _ | apply Drawn0.step)⟩

/-! ### sconceref01_Inverse: function 21 -/
def sconceref01_Inverse.l0 : Nat → Int → Int → Int → Option (Int)
  | 0, _, _, _ => none
  | k + 1, x0, x3, x4 => if x4 < 64 then (if 0 ≤ (IntKind.u64.wrap (x4)) then ((sconceref01_One.f (x4 == 0)).bind fun t117 => (if (Go.bits .and .u64 (shr .u64 (IntKind.u64.wrap (x0 * x3)) (IntKind.u64.wrap (x4))) 1) = t117 then (sconceref01_Inverse.l0 k x0 x3 (wrap64 (x4 + 1))) else (sconceref01_Inverse.l0 k x0 (Go.bits .or .u64 x3 (shl .u64 1 (IntKind.u64.wrap (x4)))) (wrap64 (x4 + 1))))) else (none)) else (some x3)
def sconceref01_Inverse.f (k : Nat) (a0 : Int) : Option (Int) := if (Int.tmod a0 2) = 0 then (some 0) else (sconceref01_Inverse.l0 k a0 0 0)
theorem sconceref01_Inverse.mono_l : ∀ k, (∀ y0 y1 y2, LeO (sconceref01_Inverse.l0 k y0 y1 y2) (sconceref01_Inverse.l0 (k + 1) y0 y1 y2))
  | 0 => fun _ _ _ r h => by simp [sconceref01_Inverse.l0] at h
  | k + 1 => by
    have ih0 := sconceref01_Inverse.mono_l k
    · intro y0 y1 y2
      unfold sconceref01_Inverse.l0
      repeat' first
      | (with_reducible exact ih0 _ _ _)
      | (with_reducible exact LeO.refl _)
      | (with_reducible exact LeO.none _)
      | (with_reducible refine LeO.ite ?_ ?_)
      | (with_reducible refine LeO.bind ?_ (fun _ => ?_))
      | exact ih0 _ _ _
      | exact LeO.none _
      | refine LeO.ite ?_ ?_
      | refine LeO.bind ?_ (fun _ => ?_)
theorem sconceref01_Inverse.mono : ∀ a0 k, LeO (sconceref01_Inverse.f k a0) (sconceref01_Inverse.f (k + 1) a0) := by
  intro a0 k
  have ih0 := sconceref01_Inverse.mono_l k
  unfold sconceref01_Inverse.f
  repeat' first
      | (with_reducible exact ih0 _ _ _)
      | (with_reducible exact LeO.refl _)
      | (with_reducible exact LeO.none _)
      | (with_reducible refine LeO.ite ?_ ?_)
      | (with_reducible refine LeO.bind ?_ (fun _ => ?_))
      | exact ih0 _ _ _
      | exact LeO.none _
      | refine LeO.ite ?_ ?_
      | refine LeO.bind ?_ (fun _ => ?_)
set_option maxHeartbeats 8000000 in
set_option maxRecDepth 100000 in
theorem sconceref01_Inverse.calls (k : Nat) (a0 : Int) (r : Int) (w : World) (h : sconceref01_Inverse.f k a0 = some r) :
    Calls Try.prog 21 #[.int .u64 a0] w fun e w' => e = .returned (.int .u64 r) ∧ Drawn0 w w' := by
  have H : (if (Int.tmod a0 2) = 0 then (some 0) else (sconceref01_Inverse.l0 k a0 0 0)) = some r := h
  clear h
  by_cases c2 : (Int.tmod a0 2) = 0
  · rw [if_pos c2] at H
    have c2b0 : ((Int.tmod a0 2) == 0) = true := beq_iff_eq.mpr c2
    have c2b1 : ((Int.tmod a0 2) != 0) = false := bne_eq_false_iff_eq.mpr c2
    clear c2
    obtain rfl := Option.some.inj H
    go_enter Try.func21, Try.ntmps21
    go_wp2
    go_ret
    exact ⟨by first | rfl | (simp; done) | (simp [*]; done), by repeat (first | exact Drawn0.refl _ | apply Drawn0.step)⟩
  · rw [if_neg c2] at H
    have c2b0 : ((Int.tmod a0 2) == 0) = false := beq_eq_false_iff_ne.mpr c2
    have c2b1 : ((Int.tmod a0 2) != 0) = true := bne_iff_ne.mpr c2
    have H' := Aside0.mk H
    clear H
    go_enter Try.func21, Try.ntmps21
    go_wp2
    go_loopg [3, 4] k (fun kq v3 v4 w' => ∃ (x3_1 : Int) (x4_1 : Int), v3 = .int .u64 x3_1 ∧ v4 = .int .i64 x4_1 ∧ Aside0 (sconceref01_Inverse.l0 kq a0 x3_1 x4_1 = some r) ∧ Aside0 (kq ≤ k) ∧ Drawn0 w w')
    case atStart => exact ⟨(0), (0), (by first | rfl | (simp; done) | (simp [*]; done)), (by first | rfl | (simp; done) | (simp [*]; done)), H', ⟨Nat.le_refl _⟩, by repeat (first | exact Drawn0.refl _ | apply Drawn0.step)⟩
    case round =>
      clear H'
      try clear c2
      try clear c2b0
      try clear c2b1
      try clear p2
      obtain ⟨x3_1, x4_1, rfl, rfl, HA, HK1, ⟨m1, rfl⟩⟩ := hrel
      cases gk with
      | zero => exact absurd HA.out (by simp [sconceref01_Inverse.l0])
      | succ k1 =>
        have H := HA.out
        clear HA
        simp only [sconceref01_Inverse.l0] at H
        by_cases c3 : x4_1 < 64
        · rw [if_pos c3] at H
          have c3b0 : decide (x4_1 < 64) = true := decide_eq_true c3
          clear c3
          obtain ⟨ji4, hji4⟩ : ∃ j_ : Int, (IntKind.u64.wrap (x4_1)) = j_ := ⟨_, rfl⟩
          replace H : (if 0 ≤ (ji4) then ((sconceref01_One.f (x4_1 == 0)).bind fun t117 => (if (Go.bits .and .u64 (shr .u64 (IntKind.u64.wrap (a0 * x3_1)) (ji4)) 1) = t117 then (sconceref01_Inverse.l0 k1 a0 x3_1 (wrap64 (x4_1 + 1))) else (sconceref01_Inverse.l0 k1 a0 (Go.bits .or .u64 x3_1 (shl .u64 1 (ji4))) (wrap64 (x4_1 + 1))))) else (none)) = some r := by first | (rw [hji4] at H; exact H) | (simp only [hji4] at H ⊢; exact H)
          by_cases c5 : 0 ≤ (ji4)
          · rw [if_pos c5] at H
            have c5b0 := eq_true c5
            have c5b1 : decide (0 ≤ (ji4)) = true := decide_eq_true c5
            clear c5
            obtain ⟨ji6, hji6⟩ : ∃ j_ : Int, (shr .u64 (IntKind.u64.wrap (a0 * x3_1)) (ji4)) = j_ := ⟨_, rfl⟩
            replace H : ((sconceref01_One.f (x4_1 == 0)).bind fun t117 => (if (Go.bits .and .u64 (ji6) 1) = t117 then (sconceref01_Inverse.l0 k1 a0 x3_1 (wrap64 (x4_1 + 1))) else (sconceref01_Inverse.l0 k1 a0 (Go.bits .or .u64 x3_1 (shl .u64 1 (ji4))) (wrap64 (x4_1 + 1))))) = some r := by first | (rw [hji6] at H; exact H) | (simp only [hji6] at H ⊢; exact H)
            have hji6_ : ((IntKind.u64.wrap (a0 * x3_1)) / 2 ^ min (ji4).toNat 64) = ji6 := hji6
            have hji6z : (ji4) ≤ 64 → ((IntKind.u64.wrap (a0 * x3_1)) / 2 ^ (ji4).toNat) = ji6 := shr_small hji6
            replace H := Option.bind_eq_some_iff.mp H
            obtain ⟨t117, A70, H⟩ := H
            replace H : (if (Go.bits .and .u64 (ji6) 1) = t117 then (sconceref01_Inverse.l0 k1 a0 x3_1 (wrap64 (x4_1 + 1))) else (sconceref01_Inverse.l0 k1 a0 (Go.bits .or .u64 x3_1 (shl .u64 1 (ji4))) (wrap64 (x4_1 + 1)))) = some r := H
            have A7 := Aside0.mk A70
            clear A70
            by_cases c8 : (Go.bits .and .u64 (ji6) 1) = t117
            · rw [if_pos c8] at H
              have c8b0 : ((Go.bits .and .u64 (ji6) 1) == t117) = true := beq_iff_eq.mpr c8
              have c8b1 : ((Go.bits .and .u64 (ji6) 1) != t117) = false := bne_eq_false_iff_eq.mpr c8
              clear c8
              have H' := Aside0.mk H
              clear H
              go_wp2_with (first | ((with_reducible refine gate_callee (f := 31) rfl ?_); refine goesL_ (some 21) rfl rfl Try.func31 (by kernel_rfl) rfl #[.bool (x4_1 == 0)] rfl (by (try simp only [List.map_toArray, List.map_cons, List.map_nil]); first | done | rfl | (simp only [List.length_drop, List.length_take]; rfl)) ?_; (with_reducible refine (sconceref01_One.calls (x4_1 == 0) t117 _ A7.out).mono ?_); rintro e w' ⟨rfl, ⟨nd, rfl⟩⟩; refine ⟨_, rfl, ?_⟩))
              go_roundg k1
              case measure => have := HK1.out; omega
              case rel => exact ⟨(x3_1), (wrap64 (x4_1 + 1)), (by first | rfl | (simp; done) | (simp [*]; done)), (by first | rfl | (simp; done) | (simp [*]; done)), H', ⟨by have := HK1.out; omega⟩, by repeat (first | exact Drawn0.refl _ | apply Drawn0.step)⟩
            · rw [if_neg c8] at H
              have c8b0 : ((Go.bits .and .u64 (ji6) 1) == t117) = false := beq_eq_false_iff_ne.mpr c8
              have c8b1 : ((Go.bits .and .u64 (ji6) 1) != t117) = true := bne_iff_ne.mpr c8
              have c9b0 := eq_true (of_decide_eq_true (by first | (with_reducible assumption) | assumption) : 0 ≤ (ji4))
              obtain ⟨ji10, hji10⟩ : ∃ j_ : Int, (shl .u64 1 (ji4)) = j_ := ⟨_, rfl⟩
              replace H : (sconceref01_Inverse.l0 k1 a0 (Go.bits .or .u64 x3_1 (ji10)) (wrap64 (x4_1 + 1))) = some r := by first | (rw [hji10] at H; exact H) | (simp only [hji10] at H ⊢; exact H)
              (try rw [hji10] at A7)
              have hji10_ : (IntKind.u64.wrap (1 * 2 ^ min (ji4).toNat 64)) = ji10 := hji10
              have hji10z : (ji4) ≤ 64 → (IntKind.u64.wrap (1 * 2 ^ (ji4).toNat)) = ji10 := shl_small hji10
              have hji10u : (IntKind.u64.wrap (2 ^ min (ji4).toNat 64)) = ji10 := by have h_ := hji10_; rw [Int.one_mul] at h_; exact h_
              have hji10v : (ji4) ≤ 64 → (IntKind.u64.wrap (2 ^ (ji4).toNat)) = ji10 := fun hle_ => by have h_ := hji10z hle_; rw [Int.one_mul] at h_; exact h_
              have H' := Aside0.mk H
              clear H
              go_wp2_with (first | ((with_reducible refine gate_callee (f := 31) rfl ?_); refine goesL_ (some 21) rfl rfl Try.func31 (by kernel_rfl) rfl #[.bool (x4_1 == 0)] rfl (by (try simp only [List.map_toArray, List.map_cons, List.map_nil]); first | done | rfl | (simp only [List.length_drop, List.length_take]; rfl)) ?_; (with_reducible refine (sconceref01_One.calls (x4_1 == 0) t117 _ A7.out).mono ?_); rintro e w' ⟨rfl, ⟨nd, rfl⟩⟩; refine ⟨_, rfl, ?_⟩))
              go_roundg k1
              case measure => have := HK1.out; omega
              case rel => exact ⟨(Go.bits .or .u64 x3_1 (ji10)), (wrap64 (x4_1 + 1)), (by first | rfl | (simp; done) | (simp only [← hji10] <;> (first | rfl | simp)) | (simp [*]; done)), (by first | rfl | (simp; done) | (simp [*]; done)), H', ⟨by have := HK1.out; omega⟩, by repeat (first | exact Drawn0.refl _ | apply Drawn0.step)⟩
          · rw [if_neg c5] at H
            exact absurd H (by simp)
        · rw [if_neg c3] at H
          have c3b0 : decide (x4_1 < 64) = false := decide_eq_false c3
          clear c3
          obtain rfl := Option.some.inj H
          go_wp2
          go_ret
          exact ⟨by first | rfl | (simp; done) | (simp [*]; done), by repeat (first | exact Drawn0.refl _ | apply Drawn0.step)⟩

end Go.Proofs.Ytjbpeomcfcdklaa.X
