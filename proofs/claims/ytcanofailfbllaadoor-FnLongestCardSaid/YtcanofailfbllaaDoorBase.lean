/- What is asked of the program once: the draws' departure, the element types, strings.Trim at its cutset of two bits. -/
import Derived.Test.YtcanofailfbllaaDoorPlain
import Derived.Test.YtcanofailfbllaaDoorProg
import Derived.Test.YtcanofailfbllaaDoorShelf
namespace Go.Proofs.YtcanofailfbllaaDoor
open Go.RowKit Go.Wk
theorem Base.mixed : Tryd.prog.follows .mixedOrders = true := by kernel_rfl
theorem Base.elem31 : Elem Tryd.prog 31 3 1 := ⟨Tryd.underlying31, Tryd.t3, _, by kernel_rfl, rfl, rfl, by decide, rfl, by decide⟩
theorem Base.elem47 : Elem Tryd.prog 47 5 1 := ⟨Tryd.underlying47, Tryd.t5, _, by kernel_rfl, rfl, rfl, by decide, rfl, by decide⟩
theorem Base.elem57 : Elem Tryd.prog 57 9 1 := ⟨Tryd.underlying57, Tryd.t9, _, by kernel_rfl, rfl, rfl, by decide, rfl, by decide⟩
theorem Base.elem66 : Elem Tryd.prog 66 31 1 := ⟨Tryd.underlying66, Tryd.t31, _, by kernel_rfl, rfl, rfl, by decide, rfl, by decide⟩
theorem Base.elem69 : Elem Tryd.prog 69 114 1 := ⟨Tryd.underlying69, Tryd.t114, _, by kernel_rfl, rfl, rfl, by decide, rfl, by decide⟩
theorem Base.elem92 : Elem Tryd.prog 92 4 1 := ⟨Tryd.underlying92, Tryd.t4, _, by kernel_rfl, rfl, rfl, by decide, rfl, by decide⟩
theorem Base.elem114 : Elem Tryd.prog 114 116 2 := ⟨Tryd.underlying114, Tryd.t116, _, by kernel_rfl, rfl, rfl, by decide, rfl, by decide⟩
theorem trim_ok (s : List UInt8) (w : World) (hs : s.length ≤ 1048576) :
    Calls Tryd.prog 124 [str s, str [48, 49]].toArray w fun en w' => en = .returned (str (Lib.trimS s [48, 49])) ∧ Below w.heap.size w w' :=
  Any.strings_Trim_laid Tryd.lays160 (by kernel_rfl) ⟨⟨s⟩⟩ ⟨⟨[48, 49]⟩⟩ w (by show s.length ≤ 9223372036854775807; omega) (by decide) (ascii_of_all (by decide))
end Go.Proofs.YtcanofailfbllaaDoor
