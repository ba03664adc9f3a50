/-
  OPENING AN ARGUMENT THAT IS A SLICE OF BYTES. Conditions: the parameter's type is that of such slices.
-/
import Derived.Test.YtjcoijejhachhaaDoorFrame
import Derived.Test.YtjcoijejhachhaaDoorCore2
import Derived.Test.YtjcoijejhachhaaDoorCore1
namespace Go.Wk
open Go.RowKit Go.ChangeShapes Go.WideShapes Go.ChangeAt

theorem open_B {H : Type} {enc : TypeId × Value → H} {P : Program} {W : World} {r : Reach} {b0 : Nat} {t e : TypeId} {v : Value} {d : DataW H} {p : List MemPlace} (ht : P.underlying t = some (.slice e)) (he : P.underlying e = some (.int .u8)) (hc : P.cellsOf e = 1)
    (hv : Value.okWide P W r b0 t v) (h : DataW.Trod enc P W 0 (fun _ => true) true t v d p) :
    ∃ L : List Int, Row W v (u8s L) ∧ Bytes8 L ∧ L.length ≤ 9223372036854775807 := by
  obtain ⟨a0, len, cap, rfl⟩ := okWide_slice ht hv
  obtain ⟨fuel, hf⟩ := h
  rcases open_ints ht he hc hf with ⟨h1, _⟩ | ⟨a, len', cap', zs, h1, _, hl, hm, hz, _, hcell, hwf⟩
  · simp only [Value.cells, List.cons.injEq, and_true, Value.slice.injEq] at h1
    obtain ⟨rfl, rfl, rfl⟩ := h1
    exact ⟨[], ⟨none, 0, rfl, Nat.le_refl 0, fun _ => rfl, fun ad h => by cases h⟩, fun x hx => (by cases hx), by simp⟩
  · simp only [Value.cells, List.cons.injEq, and_true, Value.slice.injEq] at h1
    obtain ⟨rfl, rfl, rfl⟩ := h1
    simp only [if_true] at hz
    have hspot : a.spot = none := by
      simp only [Value.okWide, ht, Cell.okWide, Cell.ok] at hv
      exact hv.2.2.2.1
    refine ⟨zs.take len, ⟨some a, cap, by simp [hz, Nat.min_eq_left hl], by simp [hz]; omega, (fun h => by cases h), fun ad had => ?_⟩, fun x hx => ?_, by simp; unfold maxLen at hm; omega⟩
    · injection had with had
      subst had
      refine ⟨hspot, fun j u hj => ?_⟩
      obtain ⟨b, off, sp⟩ := a
      simp only at hspot
      subst hspot
      have hj' : j < (zs.take len).length := by
        rcases Nat.lt_or_ge j (zs.take len).length with h | h
        · exact h
        · rw [List.getElem?_eq_none (by simpa using h)] at hj; cases hj
      have hjz : j < zs.length := by rw [List.length_take] at hj'; omega
      have h2 := hcell j hjz
      rw [add_plain] at h2
      rw [h2]
      simp only [u8s, List.getElem?_map, List.getElem?_eq_getElem hj', Option.map_some, List.getElem_take] at hj
      rw [← hj, List.getD_eq_getElem?_getD, List.getElem?_eq_getElem hjz]
      rfl
    · have := hwf x (List.mem_of_mem_take hx)
      simp only [Lit.wf, Bool.and_eq_true, IntKind.min, IntKind.max, IntKind.signed, IntKind.bits] at this
      simpa using this
end Go.Wk
