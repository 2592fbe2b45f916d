/- Layer 1: words as bytes, bytes as a word. -/
import Derived.Test.YtjbpeomcfcdklaaSp1
namespace Go.Proofs.Ytjbpeomcfcdklaa.X
open Go.RowKit Go.Proofs.YtjbpeomcfcdklaaW.PrintWords Go.Proofs.YtjbpeomcfcdklaaW.PrintLast Go.Proofs.YtjbpeomcfcdklaaW.PrintMore Go.Proofs.Ytjbpeomcfcdklaa.Ma
set_option linter.unusedVariables false

def put8 (a : Int) : List Int := [a / 72057594037927936, a / 281474976710656 % 256, a / 1099511627776 % 256, a / 4294967296 % 256, a / 16777216 % 256, a / 65536 % 256, a / 256 % 256, a % 256]
theorem sp_word_Put {a : Int} (ha : wd a = true) : word_Put.f a = some (put8 a) := by
  rw [wd_iff] at ha
  unfold word_Put.f; rw [if_pos ha]; rfl
theorem shr_lit (a : Int) (i : Nat) (hi : i ≤ 64) : shr .u64 a (i : Int) = a / 2 ^ i := by
  unfold shr; rw [Int.toNat_natCast, Nat.min_eq_left (by simpa [IntKind.bits] using hi)]
theorem sp_ref_Put {a : Int} (ha : wd a = true) : Ev (fun k => sconceref01_Put.f k a) (put8 a) := by
  have ha' := wd_iff.1 ha
  unfold sconceref01_Put.f
  have st : ∀ (i : Nat) (l : List Int) (r : List Int), i ≤ 56 → l.length ≤ 8 → Ev (fun k => sconceref01_Put.l0 k a (l ++ [a / 2 ^ i % 256]) ((i : Int) - 8)) r → Ev (fun k => sconceref01_Put.l0 k a l (i : Int)) r := by
    intro i l r hi hl h
    have e1 : IntKind.u64.wrap (i : Int) = i := by rw [wU]; omega
    have e2 : wrap64 ((i : Int) - 8) = (i : Int) - 8 := w64 (by omega) (by omega)
    refine Ev.step (fun k => by rw [sconceref01_Put.l0, e1, e2, shr_lit a i (by omega)]) ?_
    exact ev_pos (by omega) (ev_pos (by omega) (ev_pos (by omega) h))
  refine st 56 _ _ (by omega) (by simp) (st 48 _ _ (by omega) (by simp) (st 40 _ _ (by omega) (by simp) (st 32 _ _ (by omega) (by simp) (st 24 _ _ (by omega) (by simp) (st 16 _ _ (by omega) (by simp) (st 8 _ _ (by omega) (by simp) (st 0 _ _ (by omega) (by simp) ?_)))))))
  refine Ev.step (fun k => by rw [sconceref01_Put.l0]) (ev_neg (by decide) (ev_const ?_))
  have e : a / 2 ^ 56 % 256 = a / 72057594037927936 := by
    rw [show (2 : Int) ^ 56 = 72057594037927936 by rfl]; omega
  simp only [List.nil_append, List.cons_append, e]
  simp [put8]
theorem rd_at0 (l : List Int) (i : Nat) : rd l (i : Int) = at0 l i := by simp [rd, at0]
/-- What comes of the first n bytes. -/
def getN (l : List Int) : Nat → Int
  | 0 => 0
  | i + 1 => Go.bits .or .u64 (IntKind.u64.wrap (getN l i * 256)) (IntKind.u64.wrap (at0 l i))
theorem word_Get_loop (l : List Int) (n : Nat) (hn : n ≤ l.length) (h8 : n ≤ 8) : ∀ (d i : Nat), i + d = n → Ev (fun k => word_Get.l0 k l (getN l i) (n : Int) (i : Int)) (getN l n) := by
  intro d
  induction d with
  | zero =>
    intro i hi
    obtain rfl : i = n := by omega
    exact Ev.step (fun k => by rw [word_Get.l0]) (ev_neg (by omega) (ev_const rfl))
  | succ d ih =>
    intro i hi
    have e2 : wrap64 ((i : Int) + 1) = ((i + 1 : Nat) : Int) := by rw [w64 (by omega) (by omega)]; omega
    refine Ev.step (fun k => by rw [word_Get.l0, e2, rd_at0]) ?_
    exact ev_pos (by omega) (ev_pos (by omega) (ev_pos (by omega) (ih (i + 1) (by omega))))
theorem ref_Get_loop (l : List Int) : ∀ (d i : Nat), i + d = min l.length 8 → Ev (fun k => sconceref01_Get.l0 k l (getN l i) (i : Int)) (getN l (min l.length 8)) := by
  intro d
  induction d with
  | zero =>
    intro i hi
    have hi' : i = min l.length 8 := by omega
    rw [← hi']
    refine Ev.step (fun k => by rw [sconceref01_Get.l0]) ?_
    by_cases h : i < l.length
    · exact ev_pos (by omega) (ev_neg (by omega) (ev_const rfl))
    · exact ev_neg (by omega) (ev_const rfl)
  | succ d ih =>
    intro i hi
    have e2 : wrap64 ((i : Int) + 1) = ((i + 1 : Nat) : Int) := by rw [w64 (by omega) (by omega)]; omega
    refine Ev.step (fun k => by rw [sconceref01_Get.l0, e2, rd_at0]) ?_
    exact ev_pos (by omega) (ev_pos (by omega) (ev_pos (by omega) (ih (i + 1) (by omega))))
theorem sp_word_Get (l : List Int) : Ev (fun k => word_Get.f k l) (getN l (min l.length 8)) := by
  unfold word_Get.f
  have e : mn (l.length : Int) 8 = ((min l.length 8 : Nat) : Int) := by unfold mn; split <;> omega
  rw [e]
  exact word_Get_loop l _ (by omega) (by omega) (min l.length 8) 0 (by omega)
theorem sp_ref_Get (l : List Int) : Ev (fun k => sconceref01_Get.f k l) (getN l (min l.length 8)) := by
  unfold sconceref01_Get.f
  exact ref_Get_loop l (min l.length 8) 0 (by omega)
theorem get_step {x y : Int} (hx0 : 0 ≤ x) (hx1 : x < 72057594037927936) (hy0 : 0 ≤ y) (hy1 : y < 256) : Go.bits .or .u64 (IntKind.u64.wrap (x * 256)) (IntKind.u64.wrap y) = x * 256 + y := by
  have e1 : IntKind.u64.wrap (x * 256) = x * 256 := by rw [wU]; omega
  have e2 : IntKind.u64.wrap y = y := by rw [wU]; omega
  rw [e1, e2]
  exact b_or_add 8 (by omega) (by omega) hy0 (by omega) (by omega) (by omega)
theorem get_put {a : Int} (ha : wd a = true) : getN (put8 a) 8 = a := by
  have ha' := wd_iff.1 ha
  have g1 : getN (put8 a) 1 = a / 72057594037927936 := by
    simp only [getN, put8, at0, List.getD_cons_zero]; rw [get_step (by omega) (by omega) (by omega) (by omega)]; omega
  have g2 : getN (put8 a) 2 = a / 281474976710656 := by
    rw [getN, g1]; simp only [put8, at0, List.getD_cons_zero, List.getD_cons_succ]; rw [get_step (by omega) (by omega) (by omega) (by omega)]; omega
  have g3 : getN (put8 a) 3 = a / 1099511627776 := by
    rw [getN, g2]; simp only [put8, at0, List.getD_cons_zero, List.getD_cons_succ]; rw [get_step (by omega) (by omega) (by omega) (by omega)]; omega
  have g4 : getN (put8 a) 4 = a / 4294967296 := by
    rw [getN, g3]; simp only [put8, at0, List.getD_cons_zero, List.getD_cons_succ]; rw [get_step (by omega) (by omega) (by omega) (by omega)]; omega
  have g5 : getN (put8 a) 5 = a / 16777216 := by
    rw [getN, g4]; simp only [put8, at0, List.getD_cons_zero, List.getD_cons_succ]; rw [get_step (by omega) (by omega) (by omega) (by omega)]; omega
  have g6 : getN (put8 a) 6 = a / 65536 := by
    rw [getN, g5]; simp only [put8, at0, List.getD_cons_zero, List.getD_cons_succ]; rw [get_step (by omega) (by omega) (by omega) (by omega)]; omega
  have g7 : getN (put8 a) 7 = a / 256 := by
    rw [getN, g6]; simp only [put8, at0, List.getD_cons_zero, List.getD_cons_succ]; rw [get_step (by omega) (by omega) (by omega) (by omega)]; omega
  rw [getN, g7]; simp only [put8, at0, List.getD_cons_zero, List.getD_cons_succ]; rw [get_step (by omega) (by omega) (by omega) (by omega)]; omega
end Go.Proofs.Ytjbpeomcfcdklaa.X
