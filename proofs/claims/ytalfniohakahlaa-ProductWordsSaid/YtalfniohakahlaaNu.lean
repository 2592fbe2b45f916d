/- Numbers from 0 on and their digits, to whatever base. Nothing of Go. -/
import Derived.Test.YtalfniohakahlaaMa
namespace Go.Proofs.Ytalfniohakahlaa.Ma

/-- A list of digits as a number, the lowest ahead. -/
def num (B : Nat) : List Int → Nat
  | [] => 0
  | x :: l => x.toNat + B * num B l
/-- The n lowest digits of x. -/
def dgs (B : Nat) : Nat → Nat → List Int
  | 0, _ => []
  | n + 1, x => ((x % B : Nat) : Int) :: dgs B n (x / B)

theorem dgs_length (B : Nat) : ∀ n x, (dgs B n x).length = n
  | 0, _ => rfl
  | n + 1, x => by simp [dgs, dgs_length B n]
theorem dgs_dg {B : Nat} (hB : 0 < B) : ∀ n x, dg B (dgs B n x)
  | 0, _ => dg_nil
  | n + 1, x => by
    rw [dgs, dg_cons]
    have := Nat.mod_lt x hB
    exact ⟨⟨by omega, by omega⟩, dgs_dg hB n _⟩
theorem num_dgs {B : Nat} : ∀ n x, num B (dgs B n x) = x % B ^ n
  | 0, x => by simp [dgs, num, Nat.mod_one]
  | n + 1, x => by
    rw [dgs, num, num_dgs n, Int.toNat_natCast, Nat.pow_succ, Nat.mul_comm (B ^ n), Nat.mod_mul]
theorem dgs_num {B : Nat} : ∀ {l : List Int}, dg B l → dgs B l.length (num B l) = l
  | [], _ => rfl
  | x :: l, h => by
    obtain ⟨⟨h0, h1⟩, h2⟩ := dg_cons.1 h
    have hx : x.toNat < B := by omega
    rw [List.length_cons, dgs, num, Nat.add_mul_mod_self_left, Nat.mod_eq_of_lt hx, Nat.add_mul_div_left _ _ (by omega), Nat.div_eq_of_lt hx, Nat.zero_add, dgs_num h2, Int.toNat_of_nonneg h0]
theorem num_lt {B : Nat} : ∀ {l : List Int}, dg B l → num B l < B ^ l.length
  | [], _ => by simp [num]
  | x :: l, h => by
    obtain ⟨⟨h0, h1⟩, h2⟩ := dg_cons.1 h
    have := num_lt h2
    rw [num, List.length_cons, Nat.pow_succ]
    have h3 : B * (num B l + 1) ≤ B * B ^ l.length := Nat.mul_le_mul_left _ this
    rw [Nat.mul_add, Nat.mul_one, Nat.mul_comm B (B ^ l.length)] at h3
    omega
theorem val_num {B : Nat} : ∀ {l : List Int}, dg B l → val B l = (num B l : Int)
  | [], _ => rfl
  | x :: l, h => by
    obtain ⟨⟨h0, h1⟩, h2⟩ := dg_cons.1 h
    rw [val_cons, val_num h2, num]
    simp only [Int.natCast_add, Int.natCast_mul, Int.toNat_of_nonneg h0]
theorem dgs_mod {B : Nat} : ∀ n x, dgs B n (x % B ^ n) = dgs B n x
  | 0, _ => rfl
  | n + 1, x => by
    rw [dgs, dgs, Nat.pow_succ]
    have e1 : x % (B ^ n * B) % B = x % B := Nat.mod_mod_of_dvd _ ⟨B ^ n, Nat.mul_comm _ _⟩
    have e2 : x % (B ^ n * B) / B = x / B % B ^ n := by rw [Nat.mul_comm (B ^ n), Nat.mod_mul_right_div_self]
    rw [e1, e2, dgs_mod n]
theorem dgs_append {B : Nat} : ∀ n m x, dgs B (n + m) x = dgs B n x ++ dgs B m (x / B ^ n)
  | 0, m, x => by simp [dgs]
  | n + 1, m, x => by
    rw [show n + 1 + m = (n + m) + 1 by omega, dgs, dgs, dgs_append n m, List.cons_append, Nat.div_div_eq_div_mul, Nat.pow_succ, Nat.mul_comm B]
theorem dgs_snoc {B : Nat} (n x : Nat) : dgs B (n + 1) x = dgs B n x ++ [((x / B ^ n % B : Nat) : Int)] := by
  rw [dgs_append n 1]; rfl
theorem at0_dgs {B : Nat} : ∀ {n i : Nat} (x : Nat), i < n → at0 (dgs B n x) i = ((x / B ^ i % B : Nat) : Int)
  | n + 1, 0, x, _ => by simp [dgs, at0]
  | n + 1, i + 1, x, h => by
    have := at0_dgs (B := B) (x / B) (show i < n by omega)
    rw [Nat.div_div_eq_div_mul, ← Nat.pow_succ'] at this
    rw [← this]; simp [dgs, at0]
theorem at0_dgs' {B n : Nat} {x : Nat} (hx : x < B ^ n) (hB : 0 < B) (i : Nat) : at0 (dgs B n x) i = ((x / B ^ i % B : Nat) : Int) := by
  by_cases h : i < n
  · exact at0_dgs x h
  · have : x / B ^ i = 0 := Nat.div_eq_of_lt (Nat.lt_of_lt_of_le hx (Nat.pow_le_pow_right hB (by omega)))
    rw [at0_ge (by rw [dgs_length]; omega), this]; simp
theorem dgs_set {B : Nat} (x : Nat) {n i : Nat} (h : i < n) (y : Int) (hy : y = ((x / B ^ i % B : Nat) : Int)) : (dgs B i x ++ List.replicate (n - i) 0).set i y = dgs B (i + 1) x ++ List.replicate (n - (i + 1)) 0 := by
  rw [dgs_snoc, List.set_append_right _ _ (by rw [dgs_length]; exact Nat.le_refl _), dgs_length, Nat.sub_self]
  obtain ⟨d, hd⟩ : ∃ d, n - i = d + 1 := ⟨n - i - 1, by omega⟩
  rw [hd, show n - (i + 1) = d by omega, List.replicate_succ, List.set_cons_zero, List.append_assoc, hy]
  rfl
theorem dgs_full_length {B : Nat} (x : Nat) {n i : Nat} (h : i ≤ n) : (dgs B i x ++ List.replicate (n - i) (0 : Int)).length = n := by
  rw [List.length_append, dgs_length, List.length_replicate]; omega
theorem dgs_zero {B : Nat} : ∀ n, dgs B n 0 = List.replicate n 0
  | 0 => rfl
  | n + 1 => by rw [dgs, Nat.zero_div, dgs_zero n, List.replicate_succ]; simp
theorem num_append {B : Nat} : ∀ (a b : List Int), num B (a ++ b) = num B a + B ^ a.length * num B b
  | [], b => by simp [num]
  | x :: a, b => by rw [List.cons_append, num, num, num_append a b, List.length_cons, Nat.mul_add, Nat.pow_succ', Nat.add_assoc, Nat.mul_assoc]
theorem num_snoc {B : Nat} (a : List Int) (x : Int) : num B (a ++ [x]) = num B a + B ^ a.length * x.toNat := by rw [num_append]; simp [num]
theorem num_replicate {B : Nat} : ∀ n, num B (List.replicate n 0) = 0
  | 0 => rfl
  | n + 1 => by rw [List.replicate_succ, num, num_replicate n]; simp
/-- Two lists of digits of one length, of one number, are alike. -/
theorem num_inj {B : Nat} {a b : List Int} (ha : dg B a) (hb : dg B b) (hl : a.length = b.length) (h : num B a = num B b) : a = b := by
  rw [← dgs_num ha, ← dgs_num hb, hl, h]
theorem dgs_eq {B : Nat} {l : List Int} {n x : Nat} (hl : dg B l) (hn : l.length = n) (h : num B l % B ^ n = x % B ^ n) : l = dgs B n x := by
  rw [← dgs_num hl, hn, ← dgs_mod n (num B l), h, dgs_mod]
theorem num_take {B : Nat} {l : List Int} (h : dg B l) (i : Nat) : num B (l.take i) = num B l % B ^ i := by
  by_cases hi : i ≤ l.length
  · have e : l = l.take i ++ l.drop i := (List.take_append_drop i l).symm
    have hl : (l.take i).length = i := by simp [hi]
    have hd : dg B (l.take i) := fun x hx => h x (List.mem_of_mem_take hx)
    have hlt := num_lt hd
    rw [hl] at hlt
    conv => rhs; rw [e, num_append, hl, Nat.add_mul_mod_self_left, Nat.mod_eq_of_lt hlt]
  · rw [List.take_of_length_le (by omega)]
    by_cases hB : B = 0
    · subst hB
      cases l with
      | nil => simp [num]
      | cons x l => have := (dg_cons.1 h).1; omega
    · exact (Nat.mod_eq_of_lt (Nat.lt_of_lt_of_le (num_lt h) (Nat.pow_le_pow_right (by omega) (by omega)))).symm

/-! ### 32 bits: the references' numbers -/
/-! ### a place that is written; products, row by row -/
theorem at0_set {l : List Int} {i : Nat} (h : i < l.length) (y : Int) (j : Nat) : at0 (l.set i y) j = if j = i then y else at0 l j := by
  unfold at0
  by_cases e : j = i
  · subst e; simp [h]
  · rw [if_neg e]; simp [List.getD_eq_getElem?_getD, List.getElem?_set_ne (Ne.symm e)]
theorem dg_set {B : Int} {l : List Int} (hl : dg B l) {y : Int} (hy : 0 ≤ y ∧ y < B) (i : Nat) : dg B (l.set i y) := by
  intro x hx
  rcases List.mem_or_eq_of_mem_set hx with h | h
  · exact hl x h
  · exact h ▸ hy
theorem num_set {B : Nat} : ∀ {l : List Int} {i : Nat} (y : Int), i < l.length → num B (l.set i y) + (at0 l i).toNat * B ^ i = num B l + y.toNat * B ^ i
  | x :: l, 0, y, _ => by simp [num, at0]; omega
  | x :: l, i + 1, y, h => by
    have ih := num_set (B := B) (l := l) (i := i) y (by simpa using h)
    have e : at0 (x :: l) (i + 1) = at0 l i := by simp [at0]
    rw [List.set_cons_succ, num, num, e]
    have e1 : (at0 l i).toNat * B ^ (i + 1) = B * ((at0 l i).toNat * B ^ i) := by rw [Nat.pow_succ]; ac_rfl
    have e2 : y.toNat * B ^ (i + 1) = B * (y.toNat * B ^ i) := by rw [Nat.pow_succ]; ac_rfl
    rw [e1, e2, Nat.add_assoc, ← Nat.mul_add, ih, Nat.mul_add]; omega
theorem at0_num {B : Nat} (hB : 0 < B) {l : List Int} (h : dg B l) (i : Nat) : at0 l i = ((num B l / B ^ i % B : Nat) : Int) := by
  conv => lhs; rw [← dgs_num h]
  exact at0_dgs' (num_lt h) hB i
theorem mul_step {B x c S i j : Nat} {out b : List Int} (h : num B out + c * B ^ (i + j) = S + x * (num B b % B ^ j) * B ^ i) (ho : i + j < out.length) :
    num B (out.set (i + j) (((x * (num B b / B ^ j % B) + (at0 out (i + j)).toNat + c) % B : Nat) : Int)) + ((x * (num B b / B ^ j % B) + (at0 out (i + j)).toNat + c) / B) * B ^ (i + (j + 1)) = S + x * (num B b % B ^ (j + 1)) * B ^ i := by
  have hs := num_set (B := B) (((x * (num B b / B ^ j % B) + (at0 out (i + j)).toNat + c) % B : Nat) : Int) ho
  have em : num B b % B ^ (j + 1) = num B b % B ^ j + B ^ j * (num B b / B ^ j % B) := by rw [Nat.pow_succ, Nat.mod_mul]
  rw [em]
  generalize num B b / B ^ j % B = y at *
  generalize (at0 out (i + j)).toNat = o at *
  generalize num B b % B ^ j = r at *
  have ht := Nat.div_add_mod (x * y + o + c) B
  rw [Int.toNat_natCast] at hs
  generalize ht1 : (x * y + o + c) / B = q at *
  generalize ht2 : (x * y + o + c) % B = d at *
  have ep : B ^ (i + (j + 1)) = B * B ^ (i + j) := by rw [← Nat.add_assoc, Nat.pow_succ, Nat.mul_comm]
  have e3 : x * (r + B ^ j * y) * B ^ i = x * r * B ^ i + x * y * B ^ (i + j) := by rw [Nat.pow_add, Nat.mul_add, Nat.add_mul]; congr 1; ac_rfl
  rw [ep, e3]
  have e4 : q * (B * B ^ (i + j)) = (B * q) * B ^ (i + j) := by ac_rfl
  have e5 : (B * q + d) * B ^ (i + j) = (B * q) * B ^ (i + j) + d * B ^ (i + j) := by rw [Nat.add_mul]
  have e6 : (x * y + o + c) * B ^ (i + j) = x * y * B ^ (i + j) + o * B ^ (i + j) + c * B ^ (i + j) := by rw [Nat.add_mul, Nat.add_mul]
  rw [ht] at e5
  rw [e4]
  generalize num B (out.set (i + j) (d : Int)) = N1 at *
  omega
theorem zero_set {l : List Int} {i n : Nat} (h : i < l.length) (hi : i < n) (y : Int) (hz : ∀ t, n ≤ t → at0 l t = 0) : ∀ t, n ≤ t → at0 (l.set i y) t = 0 := by
  intro t ht; rw [at0_set h, if_neg (by omega), hz t ht]
/-- 2^32 -/
abbrev H : Nat := 4294967296
/-- 2^64 -/
abbrev W : Nat := 18446744073709551616
/-- How many digits of 32 bits. -/
def blen (x : Nat) : Nat := if x = 0 then 0 else Nat.log2 x / 32 + 1
/-- A number as the references have it: none of its digits is 0 at the top. -/
def big (x : Nat) : List Int := dgs 4294967296 (blen x) x
theorem big_length (x : Nat) : (big x).length = blen x := dgs_length _ _ _
theorem H_pow (n : Nat) : 4294967296 ^ n = 2 ^ (32 * n) := by rw [Nat.pow_mul]
theorem blen_lt (x : Nat) : x < 4294967296 ^ blen x := by
  unfold blen
  split
  · rename_i h; subst h; simp
  · rename_i h
    rw [H_pow]
    exact Nat.lt_of_lt_of_le Nat.lt_log2_self (Nat.pow_le_pow_right (by decide) (by omega))
theorem blen_ge {x : Nat} (h : x ≠ 0) : 4294967296 ^ (blen x - 1) ≤ x := by
  unfold blen
  rw [if_neg h, H_pow]
  exact Nat.le_trans (Nat.pow_le_pow_right (by decide) (by omega)) (Nat.log2_self_le h)
theorem blen_pos {x : Nat} (h : x ≠ 0) : 0 < blen x := by unfold blen; rw [if_neg h]; omega
theorem blen_zero : blen 0 = 0 := rfl
/-- As many digits as are wanted: told by bounds. -/
theorem blen_le {x n : Nat} (h : x < 4294967296 ^ n) : blen x ≤ n := by
  by_cases hx : x = 0
  · subst hx; exact Nat.zero_le _
  · have h1 := Nat.lt_of_le_of_lt (blen_ge hx) h
    have h2 := (Nat.pow_lt_pow_iff_right (show 1 < 4294967296 by decide)).1 h1
    have := blen_pos hx
    omega
theorem blen_mono {x y : Nat} (h : x ≤ y) : blen x ≤ blen y := blen_le (Nat.lt_of_le_of_lt h (blen_lt y))
theorem big_dg (x : Nat) : dg ((4294967296 : Nat) : Int) (big x) := dgs_dg (by decide) _ _
theorem num_big (x : Nat) : num 4294967296 (big x) = x := by unfold big; rw [num_dgs, Nat.mod_eq_of_lt (blen_lt x)]
theorem at0_big (x i : Nat) : at0 (big x) i = ((x / 4294967296 ^ i % 4294967296 : Nat) : Int) := at0_dgs' (blen_lt x) (by decide) i
theorem big_zero : big 0 = [] := rfl
/-- Digits without noughts at the top are a number's own. -/
theorem big_of {l : List Int} (h : dg ((4294967296 : Nat) : Int) l) (ht : l.length = 0 ∨ at0 l (l.length - 1) ≠ 0) : l = big (num 4294967296 l) := by
  have hlt := num_lt h
  have hle : blen (num 4294967296 l) ≤ l.length := blen_le hlt
  have hge : l.length ≤ blen (num 4294967296 l) := by
    rcases ht with h0 | h0
    · omega
    · rcases Nat.lt_or_ge (blen (num 4294967296 l)) l.length with hc | hc
      · exfalso
        apply h0
        have e := dgs_num h
        have hl : l.length ≠ 0 := by omega
        rw [← e, dgs_length, at0_dgs _ (by omega), Nat.div_eq_of_lt]
        · simp
        · exact Nat.lt_of_lt_of_le (blen_lt _) (Nat.pow_le_pow_right (by decide) (by omega))
      · exact hc
  have e : blen (num 4294967296 l) = l.length := by omega
  unfold big
  rw [e, dgs_num h]
theorem big_inj {x y : Nat} (h : big x = big y) : x = y := by rw [← num_big x, ← num_big y, h]
end Go.Proofs.Ytalfniohakahlaa.Ma
