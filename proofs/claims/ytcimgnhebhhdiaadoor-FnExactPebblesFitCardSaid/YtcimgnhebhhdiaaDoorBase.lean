/- What is asked of the program once: the draws' departure, the element types, strings.Trim at its cutset of two bits. -/
import Derived.Test.YtcimgnhebhhdiaaDoorPlain
import Derived.Test.YtcimgnhebhhdiaaDoorProg
import Derived.Test.YtcimgnhebhhdiaaDoorShelf
namespace Go.Proofs.YtcimgnhebhhdiaaDoor
open Go.RowKit Go.Wk
theorem Base.mixed : Tryd.prog.follows .mixedOrders = true := by kernel_rfl
theorem Base.elem25 : Elem Tryd.prog 25 3 1 := ⟨Tryd.underlying25, Tryd.t3, _, by kernel_rfl, rfl, rfl, by decide, rfl, by decide⟩
theorem Base.elem56 : Elem Tryd.prog 56 9 1 := ⟨Tryd.underlying56, Tryd.t9, _, by kernel_rfl, rfl, rfl, by decide, rfl, by decide⟩
theorem Base.elem68 : Elem Tryd.prog 68 25 1 := ⟨Tryd.underlying68, Tryd.t25, _, by kernel_rfl, rfl, rfl, by decide, rfl, by decide⟩
theorem Base.elem71 : Elem Tryd.prog 71 95 1 := ⟨Tryd.underlying71, Tryd.t95, _, by kernel_rfl, rfl, rfl, by decide, rfl, by decide⟩
theorem Base.elem80 : Elem Tryd.prog 80 4 1 := ⟨Tryd.underlying80, Tryd.t4, _, by kernel_rfl, rfl, rfl, by decide, rfl, by decide⟩
theorem Base.elem94 : Elem Tryd.prog 94 5 1 := ⟨Tryd.underlying94, Tryd.t5, _, by kernel_rfl, rfl, rfl, by decide, rfl, by decide⟩
theorem Base.elem95 : Elem Tryd.prog 95 97 2 := ⟨Tryd.underlying95, Tryd.t97, _, by kernel_rfl, rfl, rfl, by decide, rfl, by decide⟩
theorem trim_ok (s : List UInt8) (w : World) (hs : s.length ≤ 1048576) :
    Calls Tryd.prog 106 [str s, str [48, 49]].toArray w fun en w' => en = .returned (str (Lib.trimS s [48, 49])) ∧ Below w.heap.size w w' :=
  Any.strings_Trim_laid Tryd.lays160 (by kernel_rfl) ⟨⟨s⟩⟩ ⟨⟨[48, 49]⟩⟩ w (by show s.length ≤ 9223372036854775807; omega) (by decide) (ascii_of_all (by decide))
end Go.Proofs.YtcimgnhebhhdiaaDoor
