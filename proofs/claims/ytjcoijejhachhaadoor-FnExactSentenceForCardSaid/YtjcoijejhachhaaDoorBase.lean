/- What is asked of the program once: the draws' departure, the element types, strings.Trim at its cutset of two bits. -/
import Derived.Test.YtjcoijejhachhaaDoorCore1
import Derived.Test.YtjcoijejhachhaaDoorProg
import Derived.Test.YtjcoijejhachhaaDoorShelf
namespace Go.Proofs.YtjcoijejhachhaaDoor
open Go.RowKit Go.Wk
theorem Base.mixed : Tryd.prog.follows .mixedOrders = true := by kernel_rfl
theorem Base.elem24 : Elem Tryd.prog 24 3 1 := ⟨Tryd.underlying24, Tryd.t3, _, by kernel_rfl, rfl, rfl, by decide, rfl, by decide⟩
theorem Base.elem45 : Elem Tryd.prog 45 5 1 := ⟨Tryd.underlying45, Tryd.t5, _, by kernel_rfl, rfl, rfl, by decide, rfl, by decide⟩
theorem Base.elem64 : Elem Tryd.prog 64 4 1 := ⟨Tryd.underlying64, Tryd.t4, _, by kernel_rfl, rfl, rfl, by decide, rfl, by decide⟩
theorem Base.elem68 : Elem Tryd.prog 68 24 1 := ⟨Tryd.underlying68, Tryd.t24, _, by kernel_rfl, rfl, rfl, by decide, rfl, by decide⟩
theorem Base.elem91 : Elem Tryd.prog 91 9 1 := ⟨Tryd.underlying91, Tryd.t9, _, by kernel_rfl, rfl, rfl, by decide, rfl, by decide⟩
theorem Base.elem96 : Elem Tryd.prog 96 143 1 := ⟨Tryd.underlying96, Tryd.t143, _, by kernel_rfl, rfl, rfl, by decide, rfl, by decide⟩
theorem Base.elem143 : Elem Tryd.prog 143 145 2 := ⟨Tryd.underlying143, Tryd.t145, _, by kernel_rfl, rfl, rfl, by decide, rfl, by decide⟩
theorem trim_ok (s : List UInt8) (w : World) (hs : s.length ≤ 1048576) :
    Calls Tryd.prog 141 [str s, str [48, 49]].toArray w fun en w' => en = .returned (str (Lib.trimS s [48, 49])) ∧ Below w.heap.size w w' :=
  Any.strings_Trim_laid Tryd.lays160 (by kernel_rfl) ⟨⟨s⟩⟩ ⟨⟨[48, 49]⟩⟩ w (by show s.length ≤ 9223372036854775807; omega) (by decide) (ascii_of_all (by decide))
end Go.Proofs.YtjcoijejhachhaaDoor
