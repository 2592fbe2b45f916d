/- Arguments that are opened: rows of rows. -/
import Derived.Test.YtjbpeomcfcdklaaX0
import Derived.Deep.Matrix
namespace Go.Proofs.Ytjbpeomcfcdklaa.X
open Go.RowKit Go.ChangeShapes Go.WideShapes Go.Deep Go.Proofs.YtjbpeomcfcdklaaW.PrintWords
set_option linter.unusedVariables false
/-- A row of rows of words that came in. -/
theorem rows_C {H : Type} {enc : TypeId × Value → H} {P : Program} {w : World} {base : Nat} {held : Bool} {t e q : TypeId} {k : IntKind} {a : Option Addr} {len cap : Nat} {d : DataW H} {ps : List MemPlace} (ht : P.underlying t = some (.slice e)) (he : P.underlying e = some (.slice q)) (hq : P.underlying q = some (.int k))
    (ce : P.cellsOf e = 1) (cq : P.cellsOf q = 1) (h : DataW.Trod enc P w base (fun _ => true) held t (.slice a len cap) d ps) :
    ∃ ls : List (List Int), len = ls.length ∧ Kd.C (Kd.slice q (Kd.int k)) w a ls.length ls ∧ ls.length ≤ cap ∧ ls.length ≤ maxLen ∧ ∀ r ∈ ls, r.length ≤ maxLen ∧ ∀ x ∈ r, (Lit.int k x).wf = true := by
  obtain ⟨fuel, hf⟩ := h
  rcases open_int_rows ht he hq ce cq hf with ⟨hcs, _⟩ | ⟨x, l, c, A, L, C, Z, hcs, _, hl, hm, _, hr⟩
  · simp [Value.cells] at hcs
    obtain ⟨rfl, rfl, rfl⟩ := hcs
    refine ⟨[], rfl, ⟨rfl, by simp, fun h => absurd h (by simp)⟩, Nat.le_refl _, Nat.zero_le _, fun r hr => absurd hr (by simp)⟩
  · simp [Value.cells] at hcs
    obtain ⟨rfl, rfl, rfl⟩ := hcs
    have hL : ∀ i, i < len → ((Z i).take (L i)).length = L i := fun i hi => by
      have := hr i (by omega)
      rw [List.length_take]; omega
    unfold maxLen at hm
    refine ⟨(List.range len).map fun i => (Z i).take (L i), by simp, ⟨by simp, by simp; omega, fun _ => ⟨x, rfl, ?_⟩⟩, by simpa using hl, by simp [maxLen]; omega, ?_⟩
    · intro j p hj
      obtain ⟨hjl, hp⟩ := List.getElem?_eq_some_iff.1 hj
      simp only [List.getElem_map, List.getElem_range] at hp
      simp only [List.length_map, List.length_range] at hjl
      obtain ⟨h1, h2, h3, h4, h5, h6, h7⟩ := hr j (by omega)
      subst hp
      refine ⟨[.slice (A j) (L j) (C j)], rfl, ⟨A j, C j, by rw [hL j hjl], by rw [hL j hjl]; exact h2, ?_⟩, ?_⟩
      · refine ⟨rfl, by rw [hL j hjl]; unfold maxLen at h3; omega, fun hpos => ?_⟩
        rw [hL j hjl] at hpos
        have hA : A j ≠ none := fun e => by have := h6 e; omega
        obtain ⟨ad, hA'⟩ := Option.ne_none_iff_exists'.1 hA
        refine ⟨ad, hA', fun i z hz => ⟨[.int k z], rfl, rfl, fun i2 u hu => ?_⟩⟩
        obtain ⟨hil, hz2⟩ := List.getElem?_eq_some_iff.1 hz
        rw [hL j hjl] at hil
        have hi2 : i2 = 0 := by
          have := (List.getElem?_eq_some_iff.1 hu).1
          simp at this
          omega
        subst hi2
        simp only [List.getElem?_cons_zero, Option.some.injEq] at hu
        subst hu
        have hc := (h7 ad hA').2 i (by omega)
        rw [List.getElem_take] at hz2
        rw [List.getD_eq_getElem?_getD, List.getElem?_eq_getElem (by omega), Option.getD_some, hz2] at hc
        simpa [Kd.int, Kd.scalar] using hc
      · intro i u hu
        have hi : i = 0 := by
          have := (List.getElem?_eq_some_iff.1 hu).1
          simp at this
          omega
        subst hi
        simp only [List.getElem?_cons_zero, Option.some.injEq] at hu
        subst hu
        simpa [Kd.slice] using h1
    · intro r hr'
      simp only [List.mem_map, List.mem_range] at hr'
      obtain ⟨i, hi, rfl⟩ := hr'
      obtain ⟨h1, h2, h3, h4, h5, h6, h7⟩ := hr i (by omega)
      exact ⟨by rw [hL i hi]; omega, fun x hx => h5 x (List.mem_of_mem_take hx)⟩
end Go.Proofs.Ytjbpeomcfcdklaa.X
