/- Plain numbers: words, digits, lists of digits as numbers. Nothing of Go. -/
namespace Go.Proofs.Ytalfniohakahlaa.Ma

/-- 2^64 -/
abbrev M64 : Int := 18446744073709551616

def bor (x y : Int) : Int := if x < y then 1 else 0
def wd (x : Int) : Bool := decide (0 ≤ x) && decide (x < 18446744073709551616)
theorem wd_iff {x : Int} : wd x = true ↔ 0 ≤ x ∧ x < 18446744073709551616 := by unfold wd; simp
/-- The i-th of a list, 0 beyond. -/
def at0 (l : List Int) (i : Nat) : Int := l.getD i 0
theorem at0_ge {l : List Int} {i : Nat} (h : l.length ≤ i) : at0 l i = 0 := by unfold at0; simp [h]
theorem at0_lt {l : List Int} {i : Nat} (h : i < l.length) : at0 l i = l[i] := by unfold at0; simp [h]
theorem at0_nil (i : Nat) : at0 [] i = 0 := by simp [at0]

/-- f 0 + f 1 B + .. + f (n-1) B^(n-1) -/
def vs (B : Int) (f : Nat → Int) : Nat → Int
  | 0 => 0
  | n + 1 => vs B f n + f n * B ^ n
/-- A list as a number, the lowest ahead. -/
def val (B : Int) (l : List Int) : Int := vs B (at0 l) l.length

/-- All digits are digits. -/
def dg (B : Int) (l : List Int) : Prop := ∀ x ∈ l, 0 ≤ x ∧ x < B

theorem vs_congr {B : Int} {f g : Nat → Int} : ∀ n, (∀ i, i < n → f i = g i) → vs B f n = vs B g n
  | 0, _ => rfl
  | n + 1, h => by simp only [vs]; rw [vs_congr n (fun i hi => h i (by omega)), h n (by omega)]
theorem vs_zero {B : Int} : ∀ n, vs B (fun _ => 0) n = 0
  | 0 => rfl
  | n + 1 => by simp [vs, vs_zero n]
theorem vs_add {B : Int} (f : Nat → Int) (n : Nat) : ∀ m, vs B f (n + m) = vs B f n + B ^ n * vs B (fun i => f (n + i)) m
  | 0 => by simp [vs]
  | m + 1 => by
    rw [← Nat.add_assoc]; simp only [vs]; rw [vs_add f n m, Int.mul_add, Int.pow_add]
    have : B ^ n * (f (n + m) * B ^ m) = f (n + m) * (B ^ n * B ^ m) := by rw [Int.mul_left_comm]
    rw [this, Int.add_assoc]
theorem vs_succ' {B : Int} (f : Nat → Int) (n : Nat) : vs B f (n + 1) = f 0 + B * vs B (fun i => f (i + 1)) n := by
  rw [Nat.add_comm, vs_add f 1 n]; simp only [vs, Int.pow_zero, Int.mul_one, Int.zero_add, Int.pow_succ, Int.one_mul, Nat.add_comm 1]
theorem vs_nonneg {B : Int} (hB : 0 ≤ B) {f : Nat → Int} : ∀ n, (∀ i, i < n → 0 ≤ f i) → 0 ≤ vs B f n
  | 0, _ => by simp [vs]
  | n + 1, h => by
    simp only [vs]
    have h1 := vs_nonneg hB n (fun i hi => h i (by omega))
    have h2 := Int.mul_nonneg (h n (by omega)) (Int.pow_nonneg hB (m := n))
    omega
theorem vs_lt {B : Int} (hB : 0 < B) {f : Nat → Int} : ∀ n, (∀ i, i < n → 0 ≤ f i ∧ f i < B) → vs B f n < B ^ n
  | 0, _ => by simp [vs]
  | n + 1, h => by
    simp only [vs]
    have h1 := vs_lt hB n (fun i hi => h i (by omega))
    have h2 : f n * B ^ n ≤ (B - 1) * B ^ n := Int.mul_le_mul_of_nonneg_right (by have := (h n (by omega)).2; omega) (Int.pow_nonneg (by omega))
    have h3 : (B - 1) * B ^ n = B ^ (n + 1) - B ^ n := by rw [Int.sub_mul, Int.one_mul, Int.pow_succ, Int.mul_comm]
    omega
/-- Digits are told by the number. -/
theorem vs_inj {B : Int} (hB : 0 < B) {f g : Nat → Int} : ∀ n, (∀ i, i < n → 0 ≤ f i ∧ f i < B) → (∀ i, i < n → 0 ≤ g i ∧ g i < B) → vs B f n = vs B g n → ∀ i, i < n → f i = g i
  | 0, _, _, _, i, hi => by omega
  | n + 1, hf, hg, h, i, hi => by
    have f0 := vs_nonneg (Int.le_of_lt hB) n (fun i hi => (hf i (by omega)).1)
    have f1 := vs_lt hB n (fun i hi => hf i (by omega))
    have g0 := vs_nonneg (Int.le_of_lt hB) n (fun i hi => (hg i (by omega)).1)
    have g1 := vs_lt hB n (fun i hi => hg i (by omega))
    simp only [vs] at h
    have hp : 0 < B ^ n := Int.pow_pos hB
    have e1 : (vs B f n + f n * B ^ n) / B ^ n = f n := by rw [Int.add_mul_ediv_right _ _ (by omega), Int.ediv_eq_zero_of_lt f0 f1]; omega
    have e2 : (vs B g n + g n * B ^ n) / B ^ n = g n := by rw [Int.add_mul_ediv_right _ _ (by omega), Int.ediv_eq_zero_of_lt g0 g1]; omega
    have e : f n = g n := by rw [← e1, ← e2, h]
    by_cases hin : i = n
    · subst hin; exact e
    · exact vs_inj hB n (fun i hi => hf i (by omega)) (fun i hi => hg i (by omega)) (by rw [e] at h; omega) i (by omega)

theorem at0_dg {B : Int} {l : List Int} (hB : 0 < B) (h : dg B l) (i : Nat) : 0 ≤ at0 l i ∧ at0 l i < B := by
  by_cases hi : i < l.length
  · rw [at0_lt hi]; exact h _ (List.getElem_mem hi)
  · rw [at0_ge (by omega)]; exact ⟨by omega, hB⟩
theorem val_nonneg {B : Int} {l : List Int} (hB : 0 < B) (h : dg B l) : 0 ≤ val B l := vs_nonneg (by omega) _ (fun i _ => (at0_dg hB h i).1)
theorem val_lt {B : Int} {l : List Int} (hB : 0 < B) (h : dg B l) : val B l < B ^ l.length := vs_lt hB _ (fun i _ => at0_dg hB h i)
theorem val_nil {B : Int} : val B [] = 0 := rfl
theorem val_cons {B : Int} (x : Int) (l : List Int) : val B (x :: l) = x + B * val B l := by
  unfold val; rw [List.length_cons, vs_succ']; congr 1
/-- The number of a list, told by more places than it has. -/
theorem vs_ge {B : Int} (l : List Int) : ∀ n, l.length ≤ n → vs B (at0 l) n = val B l := by
  intro n hn
  obtain ⟨k, rfl⟩ : ∃ k, n = l.length + k := ⟨n - l.length, by omega⟩
  rw [vs_add, vs_congr k (g := fun _ => 0) (fun i _ => at0_ge (by omega)), vs_zero]
  simp [val]
theorem val_append {B : Int} (a b : List Int) : val B (a ++ b) = val B a + B ^ a.length * val B b := by
  induction a with
  | nil => simp [val_nil]
  | cons x a ih => rw [List.cons_append, val_cons, ih, val_cons, List.length_cons, Int.mul_add, Int.pow_succ, Int.add_assoc, ← Int.mul_assoc, Int.mul_comm B (B ^ a.length)]
theorem val_snoc {B : Int} (a : List Int) (x : Int) : val B (a ++ [x]) = val B a + x * B ^ a.length := by
  rw [val_append, val_cons, val_nil, Int.mul_zero, Int.add_zero, Int.mul_comm]
/-- The list of f 0 .. f (n-1). -/
def mk (f : Nat → Int) (n : Nat) : List Int := (List.range n).map f
theorem mk_length (f : Nat → Int) (n : Nat) : (mk f n).length = n := by simp [mk]
theorem mk_succ (f : Nat → Int) (n : Nat) : mk f (n + 1) = mk f n ++ [f n] := by simp [mk, List.range_succ]
theorem at0_mk {f : Nat → Int} {n i : Nat} (h : i < n) : at0 (mk f n) i = f i := by simp [at0, mk, h]
theorem val_mk {B : Int} (f : Nat → Int) (n : Nat) : val B (mk f n) = vs B f n := by
  unfold val; rw [mk_length]; exact vs_congr n (fun i hi => at0_mk hi)
theorem dg_mk {B : Int} {f : Nat → Int} {n : Nat} (h : ∀ i, i < n → 0 ≤ f i ∧ f i < B) : dg B (mk f n) := by
  intro x hx; simp only [mk, List.mem_map, List.mem_range] at hx; obtain ⟨i, hi, rfl⟩ := hx; exact h i hi
theorem mk_set (f : Nat → Int) {n i : Nat} (h : i < n) : (mk f i ++ List.replicate (n - i) 0).set i (f i) = mk f (i + 1) ++ List.replicate (n - (i + 1)) 0 := by
  rw [mk_succ, List.set_append_right _ _ (by rw [mk_length]; exact Nat.le_refl _), mk_length, Nat.sub_self]
  obtain ⟨d, hd⟩ : ∃ d, n - i = d + 1 := ⟨n - i - 1, by omega⟩
  rw [hd, show n - (i + 1) = d by omega, List.replicate_succ, List.set_cons_zero, List.append_assoc]
  rfl
theorem mk_full_length (f : Nat → Int) {n i : Nat} (h : i ≤ n) : (mk f i ++ List.replicate (n - i) 0).length = n := by
  rw [List.length_append, mk_length, List.length_replicate]; omega
theorem ext_at0 {a b : List Int} (hl : a.length = b.length) (h : ∀ i, i < a.length → at0 a i = at0 b i) : a = b := by
  refine List.ext_getElem hl (fun i h1 h2 => ?_)
  have := h i h1; rwa [at0_lt h1, at0_lt h2] at this
/-- Lists of the same length, of digits, are alike if their numbers are. -/
theorem val_inj {B : Int} {a b : List Int} (hB : 0 < B) (ha : dg B a) (hb : dg B b) (hl : a.length = b.length) (h : val B a = val B b) : a = b := by
  refine ext_at0 hl (vs_inj hB a.length (fun i _ => at0_dg hB ha i) (fun i _ => at0_dg hB hb i) ?_)
  have : val B b = vs B (at0 b) a.length := by rw [hl]; rfl
  rw [← this]; exact h
theorem dg_nil {B : Int} : dg B [] := by intro x hx; cases hx
theorem dg_cons {B : Int} {x : Int} {l : List Int} : dg B (x :: l) ↔ (0 ≤ x ∧ x < B) ∧ dg B l := by simp [dg]
theorem dg_append {B : Int} {a b : List Int} : dg B (a ++ b) ↔ dg B a ∧ dg B b := by
  simp only [dg, List.mem_append]; exact ⟨fun h => ⟨fun x hx => h x (.inl hx), fun x hx => h x (.inr hx)⟩, fun h x hx => hx.elim (h.1 x) (h.2 x)⟩
theorem wds_dg {l : List Int} : l.all wd = true ↔ dg 18446744073709551616 l := by
  simp only [List.all_eq_true, wd_iff, dg]

/-! ### sums and differences, a place after the other -/
/-- What is carried into place i of a + m b. -/
def cyA (m : Int) (a b : List Int) : Nat → Int
  | 0 => 0
  | i + 1 => (at0 a i + m * at0 b i + cyA m a b i) / 18446744073709551616
def dgA (m : Int) (a b : List Int) (i : Nat) : Int := (at0 a i + m * at0 b i + cyA m a b i) % 18446744073709551616
/-- What is borrowed at place i of a - m b. -/
def cyS (m : Int) (a b : List Int) : Nat → Int
  | 0 => 0
  | i + 1 => bor (at0 a i) (m * at0 b i + cyS m a b i)
def dgS (m : Int) (a b : List Int) (i : Nat) : Int := (at0 a i - m * at0 b i - cyS m a b i) % 18446744073709551616
theorem cyA_bit {m : Int} (hm : m = 0 ∨ m = 1) {a b : List Int} (ha : dg 18446744073709551616 a) (hb : dg 18446744073709551616 b) : ∀ i, 0 ≤ cyA m a b i ∧ cyA m a b i ≤ 1
  | 0 => by simp [cyA]
  | i + 1 => by
    simp only [cyA]
    have h := cyA_bit hm ha hb i
    have h1 := at0_dg (by decide) ha i
    have h2 := at0_dg (by decide) hb i
    have h3 : 0 ≤ m * at0 b i ∧ m * at0 b i < 18446744073709551616 := by rcases hm with rfl | rfl <;> omega
    omega
theorem cyS_bit {m : Int} {a b : List Int} : ∀ i, 0 ≤ cyS m a b i ∧ cyS m a b i ≤ 1
  | 0 => by simp [cyS]
  | i + 1 => by simp only [cyS, bor]; split <;> omega
theorem sumA {m : Int} {a b : List Int} : ∀ n, vs 18446744073709551616 (dgA m a b) n + cyA m a b n * 18446744073709551616 ^ n = vs 18446744073709551616 (at0 a) n + m * vs 18446744073709551616 (at0 b) n
  | 0 => by simp [vs, cyA]
  | n + 1 => by
    have ih := sumA (m := m) (a := a) (b := b) n
    simp only [vs, cyA]
    have e : dgA m a b n + (at0 a n + m * at0 b n + cyA m a b n) / 18446744073709551616 * 18446744073709551616 = at0 a n + m * at0 b n + cyA m a b n := by
      unfold dgA; omega
    generalize (at0 a n + m * at0 b n + cyA m a b n) / 18446744073709551616 = q at *
    have e2 : q * 18446744073709551616 ^ (n + 1) = (q * 18446744073709551616) * 18446744073709551616 ^ n := by rw [Int.pow_succ, Int.mul_comm (18446744073709551616 ^ n), Int.mul_assoc]
    rw [e2]
    have e3 : dgA m a b n * 18446744073709551616 ^ n + (q * 18446744073709551616) * 18446744073709551616 ^ n = (at0 a n + m * at0 b n + cyA m a b n) * 18446744073709551616 ^ n := by rw [← Int.add_mul, e]
    have e4 : m * (at0 b n * 18446744073709551616 ^ n) = m * at0 b n * 18446744073709551616 ^ n := by rw [Int.mul_assoc]
    rw [Int.mul_add, e4]
    simp only [Int.add_mul] at e3
    omega
theorem subS {m : Int} (hm : m = 0 ∨ m = 1) {a b : List Int} (ha : dg 18446744073709551616 a) (hb : dg 18446744073709551616 b) : ∀ n, vs 18446744073709551616 (dgS m a b) n = vs 18446744073709551616 (at0 a) n - m * vs 18446744073709551616 (at0 b) n + cyS m a b n * 18446744073709551616 ^ n
  | 0 => by simp [vs, cyS]
  | n + 1 => by
    have ih := subS hm ha hb n
    simp only [vs]
    have h := cyS_bit (m := m) (a := a) (b := b) n
    have h1 := at0_dg (by decide) ha n
    have h2 := at0_dg (by decide) hb n
    have h3 : 0 ≤ m * at0 b n ∧ m * at0 b n < 18446744073709551616 := by rcases hm with rfl | rfl <;> omega
    have e : dgS m a b n = at0 a n - m * at0 b n - cyS m a b n + cyS m a b (n + 1) * 18446744073709551616 := by
      simp only [cyS, dgS, bor]; split <;> omega
    rw [e]
    generalize cyS m a b (n + 1) = q at *
    have e2 : q * 18446744073709551616 ^ (n + 1) = (q * 18446744073709551616) * 18446744073709551616 ^ n := by rw [Int.pow_succ, Int.mul_comm (18446744073709551616 ^ n), Int.mul_assoc]
    rw [e2]
    have e4 : m * (at0 b n * 18446744073709551616 ^ n) = m * at0 b n * 18446744073709551616 ^ n := by rw [Int.mul_assoc]
    rw [Int.mul_add, e4]
    simp only [Int.add_mul, Int.sub_mul]
    omega
/-! ### a bit up -/
/-- What is shifted into place i. -/
def cyL (c : Int) (a : List Int) : Nat → Int
  | 0 => c
  | i + 1 => at0 a i / 9223372036854775808
def dgL (c : Int) (a : List Int) (i : Nat) : Int := at0 a i * 2 % 18446744073709551616 + cyL c a i
theorem cyL_bit {c : Int} (hc : c = 0 ∨ c = 1) {a : List Int} (ha : dg 18446744073709551616 a) : ∀ i, 0 ≤ cyL c a i ∧ cyL c a i ≤ 1
  | 0 => by simp only [cyL]; omega
  | i + 1 => by
    have h := at0_dg (by decide) ha i
    simp only [cyL]; omega
theorem sumL {c : Int} {a : List Int} : ∀ n, vs 18446744073709551616 (dgL c a) n + cyL c a n * 18446744073709551616 ^ n = 2 * vs 18446744073709551616 (at0 a) n + c
  | 0 => by simp [vs, cyL]
  | n + 1 => by
    have ih := sumL (c := c) (a := a) n
    simp only [vs, cyL]
    have e : dgL c a n + at0 a n / 9223372036854775808 * 18446744073709551616 = 2 * at0 a n + cyL c a n := by unfold dgL; omega
    generalize at0 a n / 9223372036854775808 = q at *
    have e2 : q * 18446744073709551616 ^ (n + 1) = (q * 18446744073709551616) * 18446744073709551616 ^ n := by rw [Int.pow_succ, Int.mul_comm (18446744073709551616 ^ n), Int.mul_assoc]
    have e3 : dgL c a n * 18446744073709551616 ^ n + (q * 18446744073709551616) * 18446744073709551616 ^ n = (2 * at0 a n + cyL c a n) * 18446744073709551616 ^ n := by rw [← Int.add_mul, e]
    have e4 : 2 * (at0 a n * 18446744073709551616 ^ n) = 2 * at0 a n * 18446744073709551616 ^ n := by rw [Int.mul_assoc]
    rw [e2, Int.mul_add, e4]
    simp only [Int.add_mul] at e3
    omega
end Go.Proofs.Ytalfniohakahlaa.Ma
