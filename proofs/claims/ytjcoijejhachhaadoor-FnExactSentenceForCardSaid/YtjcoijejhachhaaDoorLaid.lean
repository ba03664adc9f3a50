/-
  WHAT THE ROWS OF THIS SEAT LIST, at a world that is written out: the two tables of the library hold what their initialisers lay. Conditions: none.
-/
import Derived.Test.YtjcoijejhachhaaDoorFrame
import Derived.Test.YtjcoijejhachhaaDoorCards
import Derived.Test.YtjcoijejhachhaaDoorTie
namespace Go.Proofs.YtjcoijejhachhaaDoor
open Go.ChangeShapes Go.WideShapes Go.ChangeAt Go.RowKit Go.Wk

theorem own : ownKnob Tryd.prog.godebug = none := by kernel_rfl
theorem laidOut : laidOutB Tryd.prog = true := by kernel_rfl
def litCell : DataW Unit → Value
  | .lit (.int k n) => .int k n
  | _ => .bool false
def flat1 : DataW Unit → List Value
  | .agg l => l.map litCell
  | d => [litCell d]
def flat2 : DataW Unit → List Value
  | .agg l => l.flatMap flat1
  | d => [litCell d]
def lay (l : List Value) : Obj → Obj
  | .cells _ t frozen => .cells l.toArray t frozen
  | o => o
/-- A world for the witness: the settled one, the tables holding what they hold when the program has begun. -/
noncomputable def laidWorld (os : Os) : World :=
  { World.holding Tryd.prog os ⟨#[], #[], []⟩ with heap := ((World.holding Tryd.prog os ⟨#[], #[], []⟩).heap.modify 0 (lay (flat2 Go.Pinned.utf8First))).modify 1 (lay (flat2 Rows.laid_unicode_utf8_acceptRanges)) }
set_option maxRecDepth 100000 in
/-- THE LISTED TABLES READ AS LISTED, whatever the arguments (they hold no block). -/
theorem laid_met (os : Os) (args : Array Value) : laidMet Tryd.prog Rows.fnExactTypeFormulaRow.laid ((laidWorld os).forCall (fun _ _ => 0) ⟨#[], args, []⟩).memory :=
  laidMet_of_run' 8 (by kernel_rfl) (by kernel_rfl)
theorem Laid1 : (laidOutB Tryd.pinned.checked.prog) = true := by kernel_rfl
theorem Laid2 : (mapsRowed Tryd.pinned.checked.prog) = true := by kernel_rfl
theorem Laid6 : ((Tryd.pinned.checked.prog.stops == [])) = true := by kernel_rfl
theorem Laid8 : ((Tryd.pinned.checked.prog.stopKnobs == [])) = true := by kernel_rfl
theorem Laid22 : ((Rows.fnExactTypeFormulaRow.plainKeys == Tryd.pinned.checked.prog.plainKeys)) = true := by kernel_rfl
theorem Laid24 : (Tryd.pinned.checked.prog.stopsHeard) = true := by kernel_rfl
theorem Laid25 : (Tryd.pinned.checked.prog.mayEnter) = true := by kernel_rfl
theorem Laid26 : ((Rows.fnExactTypeFormulaRow.lifted == Tryd.pinned.checked.prog.liftsFinal)) = true := by kernel_rfl
theorem Laid27 : ((Tryd.pinned.checked.prog.make == some Rows.fnExactTypeFormulaRow.make)) = true := by kernel_rfl
end Go.Proofs.YtjcoijejhachhaaDoor
