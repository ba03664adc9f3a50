/-
  DRAWS: what laws ask of what is drawn. No program in sight.
-/
import Derived.Test.YtmannilblelfjaaDoorPlain24
namespace Go.Wk
open Go.RowKit
/-- what a drawn structure is at least, a spoiled one too -/
structure St.Tame (a : St) : Prop where
  lo : -9223372036854775808 ≤ a.n
  hi : a.n ≤ 9223372036854775807
  set : a.set.length ≤ 50000
  rel : a.rel.length ≤ 50000
theorem St.Fine.tame {a : St} (h : a.Fine) : a.Tame := by
  have h1 := h.lo; have h2 := h.hi; have h3 := h.set; have h4 := h.rel
  have h5 : a.n * a.n ≤ 8 * 8 := Int.mul_le_mul h2 h2 (by omega) (by omega)
  exact ⟨by omega, by omega, by omega, by omega⟩
theorem u8s_take (L : List Int) (n : Nat) : u8s (L.take n) = (u8s L).take n := by simp [u8s, List.map_take]
theorem Bytes8.take {L : List Int} (h : Bytes8 L) (n : Nat) : Bytes8 (L.take n) := fun x hx => h x (List.mem_of_mem_take hx)
end Go.Wk
