/- What is asked of the program once: the draws' departure, the element types, strings.Trim at its cutset of two bits. -/
import Derived.Test.YtmannilblelfjaaDoorCore1
import Derived.Test.YtmannilblelfjaaDoorProg
import Derived.Test.YtmannilblelfjaaDoorShelf
namespace Go.Proofs.YtmannilblelfjaaDoor
open Go.RowKit Go.Wk
theorem Base.mixed : Tryd.prog.follows .mixedOrders = true := by kernel_rfl
theorem Base.elem22 : Elem Tryd.prog 22 5 1 := ⟨Tryd.underlying22, Tryd.t5, _, by kernel_rfl, rfl, rfl, by decide, rfl, by decide⟩
theorem Base.elem25 : Elem Tryd.prog 25 3 1 := ⟨Tryd.underlying25, Tryd.t3, _, by kernel_rfl, rfl, rfl, by decide, rfl, by decide⟩
theorem Base.elem52 : Elem Tryd.prog 52 9 1 := ⟨Tryd.underlying52, Tryd.t9, _, by kernel_rfl, rfl, rfl, by decide, rfl, by decide⟩
theorem Base.elem79 : Elem Tryd.prog 79 25 1 := ⟨Tryd.underlying79, Tryd.t25, _, by kernel_rfl, rfl, rfl, by decide, rfl, by decide⟩
theorem Base.elem91 : Elem Tryd.prog 91 145 1 := ⟨Tryd.underlying91, Tryd.t145, _, by kernel_rfl, rfl, rfl, by decide, rfl, by decide⟩
theorem Base.elem108 : Elem Tryd.prog 108 4 1 := ⟨Tryd.underlying108, Tryd.t4, _, by kernel_rfl, rfl, rfl, by decide, rfl, by decide⟩
theorem Base.elem145 : Elem Tryd.prog 145 147 2 := ⟨Tryd.underlying145, Tryd.t147, _, by kernel_rfl, rfl, rfl, by decide, rfl, by decide⟩
theorem trim_ok (s : List UInt8) (w : World) (hs : s.length ≤ 1048576) :
    Calls Tryd.prog 164 [str s, str [48, 49]].toArray w fun en w' => en = .returned (str (Lib.trimS s [48, 49])) ∧ Below w.heap.size w w' :=
  Any.strings_Trim_laid Tryd.lays160 (by kernel_rfl) ⟨⟨s⟩⟩ ⟨⟨[48, 49]⟩⟩ w (by show s.length ≤ 9223372036854775807; omega) (by decide) (ascii_of_all (by decide))
end Go.Proofs.YtmannilblelfjaaDoor
