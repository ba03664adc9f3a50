/-
  SHORT NAMES for the values and blocks that walks say most often. No program in sight.
-/
import Derived.Test.YtmannilblelfjaaDoorWk
namespace Go.Wk
open Go.RowKit
@[reducible] def sl_ (g n c : Nat) : Value := .slice (some ⟨g, 0, none⟩) n c
@[reducible] def pt_ (p : Nat) : Value := .pointer (some ⟨p, 0, none⟩)
@[reducible] def pf_ (p k : Nat) : Value := .pointer (some ⟨p, k, none⟩)
@[reducible] def i6_ (x : Int) : Value := .int .i64 x
@[reducible] def bo_ (b : Bool) : Value := .bool b
@[reducible] def bk_ (p : Nat) (cs : Array Value) (T : TypeId) : Nat × Obj := (p, .cells cs T (0, 0))
end Go.Wk
