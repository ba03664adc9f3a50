/-
  OPENING AN ARGUMENT THAT IS A TEXT. Conditions: the parameter's type is that of texts.
-/
import Derived.Test.YtcanofailfbllaaDoorFrame
import Derived.Test.YtcanofailfbllaaDoorWk
import Derived.ChangeMaps5
namespace Go.Wk
open Go.RowKit Go.ChangeShapes Go.WideShapes Go.ChangeAt

theorem open_T {H : Type} {enc : TypeId × Value → H} {P : Program} {W : World} {r : Reach} {b0 : Nat} {t : TypeId} {v : Value} {d : DataW H} {p : List MemPlace} (ht : P.underlying t = some .string)
    (hv : Value.okWide P W r b0 t v) (h : DataW.Trod enc P W 0 (fun _ => true) true t v d p) : ∃ s : List UInt8, v = str s := by
  obtain ⟨s, rfl, _, _, _⟩ := Go.ChangeMaps.open_string ht hv h
  obtain ⟨⟨l⟩⟩ := s
  exact ⟨l, rfl⟩
end Go.Wk
