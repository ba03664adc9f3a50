/-
  Lists of elements, by walks.
-/
import Derived.Test.YtcanofailfbllaaDoorWkD
import Derived.Test.YtcanofailfbllaaDoorSpread
import Derived.Test.YtcanofailfbllaaDoorBase
namespace Go.Proofs.YtcanofailfbllaaDoor
open Go.RowKit Go.Wk
set_option linter.unusedSimpArgs false

set_option maxHeartbeats 400000 in
/-- impl.areElements$1 -/
theorem noEl_ok (a : St) (g T : Nat) (x : Int) (w : World) (hg : w.heap[g]? = some (.cells #[.int .i64 a.n, str a.set, str a.rel] T (0, 0))) :
    Calls Tryd.prog 107 [.int .i64 x, .pointer (some ⟨g, 0, none⟩)].toArray w fun en w' => en = .returned (.bool (!elB a x)) ∧ Below w.heap.size w w' := by
  refine fnStart (n := 12) (e := [(0, .int .i64 x), (1, .pointer (some ⟨g, 0, none⟩))]) Tryd.func107 rfl rfl rfl rfl Ends.both ?_
  refine Wk.seq ?_
  refine Wk.regionQ ?_
  refine Lq.op (v := .bool false) rfl rfl rfl (OpQ.assign rfl rfl) ?_
  refine Lq.nil ?_
  refine Kt.onSub (e' := [(0, .int .i64 x), (1, .pointer (some ⟨g, 0, none⟩))]) (Sub.cons rfl (Sub.cons rfl Sub.nil)) ?_
  refine Wk.seq ?_
  refine Wk.regionQ ?_
  refine Lq.op (v := .int .i64 x) rfl rfl rfl (OpQ.move rfl rfl) ?_
  refine Lq.op (v := .bool (decide (x < (0 : Int)))) rfl rfl rfl (OpQ.lss rfl rfl rfl) ?_
  refine Lq.op (v := .bool (decide (x < (0 : Int)))) rfl rfl rfl (OpQ.move rfl rfl) ?_
  refine Lq.bool fun b6 hg6 => ?_
  cases b6
  · skip
    replace hg6 := of_decide_eq_false hg6
    refine Lq.op (v := .int .i64 x) rfl rfl rfl (OpQ.move rfl rfl) ?_
    refine Lq.op (v := .pointer (some (⟨g, 0, none⟩))) rfl rfl rfl (OpQ.fieldAddr rfl Tryd.runUnderlying26 rfl Tryd.sizeOf3 rfl rfl) ?_
    refine Lq.op (v := .int .i64 a.n) rfl rfl rfl (OpQ.load1 rfl Tryd.isAgg3 rfl (fun w1 hw1 => at_box hg hw1 0 rfl)) ?_
    refine Lq.op (v := .bool (decide (a.n ≤ x))) rfl rfl rfl (OpQ.geq rfl rfl rfl) ?_
    refine Lq.op (v := .bool (decide (a.n ≤ x))) rfl rfl rfl (OpQ.pickF rfl rfl rfl) ?_
    refine Lq.op (v := .bool (decide (a.n ≤ x))) rfl rfl rfl (OpQ.assign rfl rfl) ?_
    refine Lq.nil ?_
    refine Kt.onSub (e' := [(3, .bool (decide (a.n ≤ x)))]) (Sub.cons rfl Sub.nil) ?_
    refine Wk.ret (Kt.end1 rfl rfl fun w' hw => ?_)
    -- ret 0: .bool (decide (a.n ≤ x))
    exact ⟨ret_b (by first | exact el_neg (by assumption) | exact el_geq (by assumption)), hw.below⟩
  · skip
    replace hg6 := of_decide_eq_true hg6
    refine Lq.pass rfl rfl rfl ?_
    refine Lq.pass rfl rfl rfl ?_
    refine Lq.pass rfl rfl rfl ?_
    refine Lq.pass rfl rfl rfl ?_
    refine Lq.op (v := .bool true) rfl rfl rfl (OpQ.pickT rfl rfl rfl) ?_
    refine Lq.op (v := .bool true) rfl rfl rfl (OpQ.assign rfl rfl) ?_
    refine Lq.nil ?_
    refine Kt.onSub (e' := [(3, .bool true)]) (Sub.cons rfl Sub.nil) ?_
    refine Wk.ret (Kt.end1 rfl rfl fun w' hw => ?_)
    -- ret 1: .bool true
    exact ⟨ret_b (by first | exact el_neg (by assumption) | exact el_geq (by assumption)), hw.below⟩

set_option maxHeartbeats 400000 in
/-- slices.IndexFunc[[]int,int] -/
theorem indexFunc_ok (va : Value) (xs : List Int) (w : World) (hva : Ints w va xs) (hs : xs.length ≤ 140737488355328) (F : FuncId) (caps : Array Value) (q : Int → Bool) (hF : ∀ args w, (callFunc F args).run Tryd.prog w = .ok (.enter F args) w) (hq : ∀ w1, Below w.heap.size w w1 → ∀ x, Calls Tryd.prog F (#[.int .i64 x] ++ caps) w1 fun en w' => en = .returned (.bool (q x)) ∧ Below w1.heap.size w1 w') :
    Calls Tryd.prog 121 [va, .func (.func F) #[] caps].toArray w fun en w' => en = .returned (.int .i64 (idxI xs q)) ∧ Below w.heap.size w w' := by
  refine fnStart (n := 19) (e := [(0, va), (1, .func (.func F) #[] caps)]) Tryd.func121 rfl rfl rfl rfl Ends.both ?_
  refine Wk.seq ?_
  refine Wk.regionQ ?_
  refine Lq.op (v := .int .i64 0) rfl rfl rfl (OpQ.assign rfl rfl) ?_
  refine Lq.nil ?_
  refine Kt.onSub (e' := [(0, va), (1, .func (.func F) #[] caps)]) (Sub.cons rfl (Sub.cons rfl Sub.nil)) ?_
  refine Wk.seq ?_
  refine Wk.seq ?_
  refine Wk.regionQ ?_
  refine Lq.op (v := va) rfl rfl rfl (OpQ.move rfl rfl) ?_
  refine Lq.op (v := .int .i64 ((xs.length : Int))) rfl rfl rfl (OpQ.lenRow rfl Tryd.runUnderlying31 rfl (ints_length _) (fun w1 hw1 => Row.own hva hw1)) ?_
  refine Lq.op (v := .int .i64 0) rfl rfl rfl (OpQ.move rfl rfl) ?_
  refine Lq.nil ?_
  refine Kt.onSub (e' := [(0, va), (1, .func (.func F) #[] caps), (7, .int .i64 ((xs.length : Int))), (8, .int .i64 0)]) (Sub.cons rfl (Sub.cons rfl (Sub.cons rfl (Sub.cons rfl Sub.nil)))) ?_
  refine Wk.block ?_
  refine Wk.loop (σ := Nat) (fun k => k ≤ xs.length ∧ ∀ i : Nat, i < k → q (xs.getD i 0) = false) (fun k => [(0, va), (1, .func (.func F) #[] caps), (7, .int .i64 ((xs.length : Int))), (8, .int .i64 ((k : Int)))]) (fun k => Own w.heap.size w []) (fun k => xs.length - k) (0) ⟨by omega, fun i hi => absurd hi (by omega)⟩ (Sub.cons rfl (Sub.cons rfl (Sub.cons rfl (Sub.cons rfl Sub.nil)))) (fun _ h => h) ?_
  rintro k ⟨hk, hall⟩
  refine Wk.seq ?_
  refine Wk.regionQ ?_
  refine Lq.op (v := .bool (decide (((k : Int)) < ((xs.length : Int))))) rfl rfl rfl (OpQ.lss rfl rfl rfl) ?_
  refine Lq.nil ?_
  refine Kt.onSub (e' := [(0, va), (1, .func (.func F) #[] caps), (7, .int .i64 ((xs.length : Int))), (8, .int .i64 ((k : Int))), (9, .bool (decide (((k : Int)) < ((xs.length : Int)))))]) (Sub.cons rfl (Sub.cons rfl (Sub.cons rfl (Sub.cons rfl (Sub.cons rfl Sub.nil))))) ?_
  refine Wk.seq ?_
  refine Wk.cond (b := decide (((k : Int)) < ((xs.length : Int)))) rfl (fun h9 => ?_) (fun h9 => ?_)
  · skip
    replace h9 := of_decide_eq_true h9
    refine Wk.skip ?_
    refine Kt.onSub (e' := [(0, va), (1, .func (.func F) #[] caps), (7, .int .i64 ((xs.length : Int))), (8, .int .i64 ((k : Int)))]) (Sub.cons rfl (Sub.cons rfl (Sub.cons rfl (Sub.cons rfl Sub.nil)))) ?_
    refine Wk.seq ?_
    refine Wk.block ?_
    refine Wk.seq ?_
    refine Wk.regionQ ?_
    refine Lq.op (v := .int .i64 ((k : Int))) rfl rfl rfl (OpQ.move rfl rfl) ?_
    refine Lq.op (v := .int .i64 ((k : Int))) rfl rfl rfl (OpQ.assign rfl rfl) ?_
    refine Lq.nil ?_
    refine Kt.onSub (e' := [(0, va), (1, .func (.func F) #[] caps), (5, .int .i64 ((k : Int))), (7, .int .i64 ((xs.length : Int))), (8, .int .i64 ((k : Int)))]) (Sub.cons rfl (Sub.cons rfl (Sub.cons rfl (Sub.cons rfl (Sub.cons rfl Sub.nil))))) ?_
    refine Wk.seq ?_
    refine Wk.regionQ ?_
    refine Lq.op (v := .func (.func F) #[] caps) rfl rfl rfl (OpQ.move rfl rfl) ?_
    refine Lq.op (v := va) rfl rfl rfl (OpQ.move rfl rfl) ?_
    refine Lq.op (v := .int .i64 ((k : Int))) rfl rfl rfl (OpQ.move rfl rfl) ?_
    refine Lq.op (v := .pointer (some (sAt va ((k : Int))))) rfl rfl rfl (OpQ.atRow rfl Tryd.runUnderlying31 Tryd.sizeOf3 rfl rfl (by omega) (by rw [ints_length]; omega) (fun w1 hw1 => Row.own hva hw1)) ?_
    refine Lq.op (v := .int .i64 (xs.getD (((k : Int)).toNat) 0)) rfl rfl rfl (OpQ.load1 rfl Tryd.isAgg3 rfl (fun w1 hw1 => Ints.cell (Row.own hva hw1) (by omega) (by omega))) ?_
    refine Lq.op (v := .bool (q (xs.getD (((k : Int)).toNat) 0))) rfl rfl rfl (OpQ.callFn rfl rfl hF rfl Own.stable (fun w1 hw1 => hq w1 hw1.below (xs.getD (((k : Int)).toNat) 0))) ?_
    refine Lq.nil ?_
    refine Kt.onSub (e' := [(0, va), (1, .func (.func F) #[] caps), (5, .int .i64 ((k : Int))), (7, .int .i64 ((xs.length : Int))), (8, .int .i64 ((k : Int))), (16, .bool (q (xs.getD (((k : Int)).toNat) 0)))]) (Sub.cons rfl (Sub.cons rfl (Sub.cons rfl (Sub.cons rfl (Sub.cons rfl (Sub.cons rfl Sub.nil)))))) ?_
    refine Wk.cond (b := q (xs.getD (((k : Int)).toNat) 0)) rfl (fun h16 => ?_) (fun h16 => ?_)
    · skip
      refine Wk.seq ?_
      refine Wk.regionQ ?_
      refine Lq.op (v := .int .i64 ((k : Int))) rfl rfl rfl (OpQ.move rfl rfl) ?_
      refine Lq.op (v := .int .i64 ((k : Int))) rfl rfl rfl (OpQ.assign rfl rfl) ?_
      refine Lq.nil ?_
      refine Kt.onSub (e' := [(4, .int .i64 ((k : Int)))]) (Sub.cons rfl Sub.nil) ?_
      refine Wk.ret (Kt.end1 rfl rfl fun w' hw => ?_)
      -- ret 0: .int .i64 ((k : Int))
      exact ⟨ret_i (idxI_at (by omega) hall (by simpa using h16)).symm, hw.below⟩
    · skip
      refine Wk.skip ?_
      refine Kt.onSub (e' := [(0, va), (1, .func (.func F) #[] caps), (7, .int .i64 ((xs.length : Int))), (8, .int .i64 ((k : Int)))]) (Sub.cons rfl (Sub.cons rfl (Sub.cons rfl (Sub.cons rfl Sub.nil)))) ?_
      refine Wk.regionQ ?_
      refine Lq.op (v := .int .i64 (((k : Int)) + (1 : Int))) rfl rfl rfl (OpQ.add rfl rfl rfl (by omega) (by omega)) ?_
      refine Lq.op (v := .int .i64 (((k : Int)) + (1 : Int))) rfl rfl rfl (OpQ.move rfl rfl) ?_
      refine Lq.nil ?_
      refine Kt.again (k + 1) ⟨by omega, fun i hi => (Nat.lt_succ_iff_lt_or_eq.1 hi).elim (hall i) (fun e => by subst e; simpa using h16)⟩ (by omega) (Sub.cons rfl (Sub.cons rfl (Sub.cons rfl (Sub.cons rfl Sub.nil)))) (fun _ h => h)
  · skip
    replace h9 := of_decide_eq_false h9
    refine Wk.exit rfl ?_
    refine Kt.onSub (e' := []) Sub.nil ?_
    refine Wk.seq ?_
    refine Wk.regionQ ?_
    refine Lq.op (v := .int .i64 (-1)) rfl rfl rfl (OpQ.assign rfl rfl) ?_
    refine Lq.nil ?_
    refine Kt.onSub (e' := [(4, .int .i64 (-1))]) (Sub.cons rfl Sub.nil) ?_
    refine Wk.ret (Kt.end1 rfl rfl fun w' hw => ?_)
    -- ret 1: .int .i64 (-1)
    exact ⟨ret_i (idxI_none (fun i hi => hall i (by omega))).symm, hw.below⟩

set_option maxHeartbeats 400000 in
/-- slices.ContainsFunc[[]int,int] -/
theorem containsFunc_ok (va : Value) (xs : List Int) (w : World) (hva : Ints w va xs) (hs : xs.length ≤ 140737488355328) (F : FuncId) (caps : Array Value) (q : Int → Bool) (hF : ∀ args w, (callFunc F args).run Tryd.prog w = .ok (.enter F args) w) (hq : ∀ w1, Below w.heap.size w w1 → ∀ x, Calls Tryd.prog F (#[.int .i64 x] ++ caps) w1 fun en w' => en = .returned (.bool (q x)) ∧ Below w1.heap.size w1 w') :
    Calls Tryd.prog 106 [va, .func (.func F) #[] caps].toArray w fun en w' => en = .returned (.bool (xs.any q)) ∧ Below w.heap.size w w' := by
  refine fnStart (n := 9) (e := [(0, va), (1, .func (.func F) #[] caps)]) Tryd.func106 rfl rfl rfl rfl Ends.both ?_
  refine Wk.seq ?_
  refine Wk.regionQ ?_
  refine Lq.op (v := .bool false) rfl rfl rfl (OpQ.assign rfl rfl) ?_
  refine Lq.nil ?_
  refine Kt.onSub (e' := [(0, va), (1, .func (.func F) #[] caps)]) (Sub.cons rfl (Sub.cons rfl Sub.nil)) ?_
  refine Wk.seq ?_
  refine Wk.regionQ ?_
  refine Lq.op (v := va) rfl rfl rfl (OpQ.move rfl rfl) ?_
  refine Lq.op (v := .func (.func F) #[] caps) rfl rfl rfl (OpQ.move rfl rfl) ?_
  refine Lq.op (v := .int .i64 (idxI xs q)) rfl rfl rfl (OpQ.call rfl Tryd.call121 rfl Own.stable (fun w1 hw1 => indexFunc_ok va xs w1 (Row.own hva hw1) hs F caps q hF (fun w2 hb x => hq w2 (hw1.below.trans (hb.mono hw1.base)) x))) ?_
  refine Lq.op (v := .bool (decide ((0 : Int) ≤ (idxI xs q)))) rfl rfl rfl (OpQ.geq rfl rfl rfl) ?_
  refine Lq.op (v := .bool (decide ((0 : Int) ≤ (idxI xs q)))) rfl rfl rfl (OpQ.assign rfl rfl) ?_
  refine Lq.nil ?_
  refine Kt.onSub (e' := [(4, .bool (decide ((0 : Int) ≤ (idxI xs q))))]) (Sub.cons rfl Sub.nil) ?_
  refine Wk.ret (Kt.end1 rfl rfl fun w' hw => ?_)
  -- ret 0: .bool (decide ((0 : Int) ≤ (idxI xs q)))
  exact ⟨ret_b (idxI_any xs q), hw.below⟩

set_option maxHeartbeats 400000 in
/-- impl.areElements -/
theorem areElements_ok (a : St) (va : Value) (xs : List Int) (w : World) (hva : Ints w va xs) (hs : xs.length ≤ 140737488355328) :
    Calls Tryd.prog 75 [vS a, va].toArray w fun en w' => en = .returned (.bool (xs.all (elB a))) ∧ Below w.heap.size w w' := by
  refine fnStart (n := 9) (e := [(0, vS a), (1, va)]) Tryd.func75 rfl rfl rfl rfl Ends.both ?_
  refine Wk.seq ?_
  refine Wk.region ?_
  refine Ll.box (v := vS a) rfl rfl rfl rfl rfl fun p2 hp2 => ?_
  show Ll _ _ (Own _ _ [(p2, .cells #[.int .i64 a.n, str a.set, str a.rel] 26 (0, 0))]) _ _ ((2, .pointer (some ⟨p2, 0, none⟩)) :: _) _ _ _
  refine Ll.op (v := .bool false) rfl rfl rfl (OpQ.assign rfl rfl) ?_
  refine Ll.nil ?_
  refine Kt.onSub (e' := [(1, va), (2, .pointer (some ⟨p2, 0, none⟩))]) (Sub.cons rfl (Sub.cons rfl Sub.nil)) ?_
  refine Wk.seq ?_
  refine Wk.regionQ ?_
  refine Lq.op (v := va) rfl rfl rfl (OpQ.move rfl rfl) ?_
  refine Lq.op (v := .func (.func 107) #[] #[.pointer (some ⟨p2, 0, none⟩)]) rfl rfl rfl (OpQ.func' (cap := [.tmp 2]) rfl rfl) ?_
  refine Lq.op (v := .bool (xs.any fun x => !elB a x)) rfl rfl rfl (OpQ.call rfl Tryd.call106 rfl Own.stable (fun w1 hw1 => containsFunc_ok va xs w1 (Row.own hva hw1) hs 107 #[.pointer (some ⟨p2, 0, none⟩)] (fun x => !elB a x) Tryd.call107 (fun w2 hb x => noEl_ok a p2 _ x w2 ((hw1.stable _ _ hb).has 0 _ _ rfl).2))) ?_
  refine Lq.op (v := .bool (!(xs.any fun x => !elB a x))) rfl rfl rfl (OpQ.not rfl rfl) ?_
  refine Lq.op (v := .bool (!(xs.any fun x => !elB a x))) rfl rfl rfl (OpQ.assign rfl rfl) ?_
  refine Lq.nil ?_
  refine Kt.onSub (e' := [(4, .bool (!(xs.any fun x => !elB a x)))]) (Sub.cons rfl Sub.nil) ?_
  refine Wk.ret (Kt.end1 rfl rfl fun w' hw => ?_)
  -- ret 0: .bool (!(xs.any fun x => !elB a x))
  exact ⟨ret_b (not_any_elB a xs), hw.below⟩

set_option maxHeartbeats 400000 in
/-- impl.isList -/
theorem isList_ok (a : St) (va : Value) (xs : List Int) (w : World) (hsa : a.Small) (hva : Ints w va xs) (hs : xs.length ≤ 140737488355328) :
    Calls Tryd.prog 102 [vS a, va].toArray w fun en w' => en = .returned (.bool (listB a xs)) ∧ Below w.heap.size w w' := by
  refine fnStart (n := 17) (e := [(0, vS a), (1, va)]) Tryd.func102 rfl rfl rfl rfl Ends.both ?_
  refine Wk.seq ?_
  refine Wk.region ?_
  refine Ll.box (v := vS a) rfl rfl rfl rfl rfl fun p2 hp2 => ?_
  show Ll _ _ (Own _ _ [(p2, .cells #[.int .i64 a.n, str a.set, str a.rel] 26 (0, 0))]) _ _ ((2, .pointer (some ⟨p2, 0, none⟩)) :: _) _ _ _
  refine Ll.op (v := .bool false) rfl rfl rfl (OpQ.assign rfl rfl) ?_
  refine Ll.nil ?_
  refine Kt.onSub (e' := [(1, va), (2, .pointer (some ⟨p2, 0, none⟩))]) (Sub.cons rfl (Sub.cons rfl Sub.nil)) ?_
  refine Wk.seq ?_
  refine Wk.regionQ ?_
  refine Lq.op (v := vS a) rfl rfl rfl (OpQ.loadBox (cs := #[.int .i64 a.n, str a.set, str a.rel]) 0 rfl Tryd.isAgg26 rfl rfl Tryd.sizeOf26) ?_
  refine Lq.op (v := .bool (validB a)) rfl rfl rfl (OpQ.call rfl Tryd.call57 rfl Own.stable (fun w1 hw1 => isStructure_ok a w1 hsa)) ?_
  refine Lq.op (v := .bool (validB a)) rfl rfl rfl (OpQ.move rfl rfl) ?_
  refine Lq.bool fun b7 hg7 => ?_
  cases b7
  · skip
    refine Lq.pass rfl rfl rfl ?_
    refine Lq.pass rfl rfl rfl ?_
    refine Lq.pass rfl rfl rfl ?_
    refine Lq.op (v := .bool false) rfl rfl rfl (OpQ.pickF rfl rfl rfl) ?_
    refine Lq.op (v := .bool false) rfl rfl rfl (OpQ.move rfl rfl) ?_
    refine Lq.pass rfl rfl rfl ?_
    refine Lq.pass rfl rfl rfl ?_
    refine Lq.pass rfl rfl rfl ?_
    refine Lq.op (v := .bool false) rfl rfl rfl (OpQ.pickF rfl rfl rfl) ?_
    refine Lq.op (v := .bool false) rfl rfl rfl (OpQ.assign rfl rfl) ?_
    refine Lq.nil ?_
    refine Kt.onSub (e' := [(4, .bool false)]) (Sub.cons rfl Sub.nil) ?_
    refine Wk.ret (Kt.end1 rfl rfl fun w' hw => ?_)
    -- ret 0: .bool false
    exact ⟨ret_b (by unfold listB; simp [*]), hw.below⟩
  · skip
    refine Lq.op (v := va) rfl rfl rfl (OpQ.move rfl rfl) ?_
    refine Lq.op (v := .int .i64 ((xs.length : Int))) rfl rfl rfl (OpQ.lenRow rfl Tryd.runUnderlying31 rfl (ints_length _) (fun w1 hw1 => Row.own hva hw1)) ?_
    refine Lq.op (v := .bool (decide (((xs.length : Int)) ≤ (4 : Int)))) rfl rfl rfl (OpQ.leq rfl rfl rfl) ?_
    refine Lq.op (v := .bool (decide (((xs.length : Int)) ≤ (4 : Int)))) rfl rfl rfl (OpQ.pickT rfl rfl rfl) ?_
    refine Lq.op (v := .bool (decide (((xs.length : Int)) ≤ (4 : Int)))) rfl rfl rfl (OpQ.move rfl rfl) ?_
    refine Lq.bool fun b12 hg12 => ?_
    cases b12
    · skip
      replace hg12 := of_decide_eq_false hg12
      refine Lq.pass rfl rfl rfl ?_
      refine Lq.pass rfl rfl rfl ?_
      refine Lq.pass rfl rfl rfl ?_
      refine Lq.op (v := .bool false) rfl rfl rfl (OpQ.pickF rfl rfl rfl) ?_
      refine Lq.op (v := .bool false) rfl rfl rfl (OpQ.assign rfl rfl) ?_
      refine Lq.nil ?_
      refine Kt.onSub (e' := [(4, .bool false)]) (Sub.cons rfl Sub.nil) ?_
      refine Wk.ret (Kt.end1 rfl rfl fun w' hw => ?_)
      -- ret 1: .bool false
      exact ⟨ret_b (by unfold listB; simp [*]), hw.below⟩
    · skip
      replace hg12 := of_decide_eq_true hg12
      refine Lq.op (v := vS a) rfl rfl rfl (OpQ.loadBox (cs := #[.int .i64 a.n, str a.set, str a.rel]) 0 rfl Tryd.isAgg26 rfl rfl Tryd.sizeOf26) ?_
      refine Lq.op (v := va) rfl rfl rfl (OpQ.move rfl rfl) ?_
      refine Lq.op (v := .bool (xs.all (elB a))) rfl rfl rfl (OpQ.call rfl Tryd.call75 rfl Own.stable (fun w1 hw1 => areElements_ok a va xs w1 (Row.own hva hw1) (by first | (simp; done) | (simp; omega) | omega))) ?_
      refine Lq.op (v := .bool (xs.all (elB a))) rfl rfl rfl (OpQ.pickT rfl rfl rfl) ?_
      refine Lq.op (v := .bool (xs.all (elB a))) rfl rfl rfl (OpQ.assign rfl rfl) ?_
      refine Lq.nil ?_
      refine Kt.onSub (e' := [(4, .bool (xs.all (elB a)))]) (Sub.cons rfl Sub.nil) ?_
      refine Wk.ret (Kt.end1 rfl rfl fun w' hw => ?_)
      -- ret 2: .bool (xs.all (elB a))
      exact ⟨ret_b (by unfold listB; simp [*]), hw.below⟩

set_option maxHeartbeats 400000 in
/-- spec.l4List -/
theorem l4List_ok (a : St) (va : Value) (xs : List Int) (w : World) (hsa : a.Small) (hva : Ints w va xs) (hs : xs.length ≤ 140737488355328) (hn : -9223372036854775808 ≤ a.n) (hn1 : a.n ≤ 9223372036854775807) :
    Calls Tryd.prog 95 [vS a, va].toArray w fun en w' => en = .returned (.bool (listB a xs)) ∧ Below w.heap.size w w' := by
  refine fnStart (n := 28) (e := [(0, vS a), (1, va)]) Tryd.func95 rfl rfl rfl rfl Ends.both ?_
  refine Wk.seq ?_
  refine Wk.region ?_
  refine Ll.box (v := vS a) rfl rfl rfl rfl rfl fun p2 hp2 => ?_
  show Ll _ _ (Own _ _ [(p2, .cells #[.int .i64 a.n, str a.set, str a.rel] 26 (0, 0))]) _ _ ((2, .pointer (some ⟨p2, 0, none⟩)) :: _) _ _ _
  refine Ll.op (v := .bool false) rfl rfl rfl (OpQ.assign rfl rfl) ?_
  refine Ll.nil ?_
  refine Kt.onSub (e' := [(1, va), (2, .pointer (some ⟨p2, 0, none⟩))]) (Sub.cons rfl (Sub.cons rfl Sub.nil)) ?_
  refine Wk.seq ?_
  refine Wk.seq ?_
  refine Wk.regionQ ?_
  refine Lq.op (v := .int .i64 0) rfl rfl rfl (OpQ.assign rfl rfl) ?_
  refine Lq.nil ?_
  refine Kt.onSub (e' := [(1, va), (2, .pointer (some ⟨p2, 0, none⟩)), (5, .int .i64 0)]) (Sub.cons rfl (Sub.cons rfl (Sub.cons rfl Sub.nil))) ?_
  refine Wk.block ?_
  refine Wk.loop (σ := Nat) (fun k => k ≤ xs.length ∧ ∀ i : Nat, i < k → inB (xs.getD i 0) 0 (pred64 a.n) = true) (fun k => [(1, va), (2, .pointer (some ⟨p2, 0, none⟩)), (5, .int .i64 ((k : Int)))]) (fun k => Own w.heap.size w [(p2, .cells #[.int .i64 a.n, str a.set, str a.rel] 26 (0, 0))]) (fun k => xs.length - k) (0) ⟨by omega, fun i hi => absurd hi (by omega)⟩ (Sub.cons rfl (Sub.cons rfl (Sub.cons rfl Sub.nil))) (fun _ h => h) ?_
  rintro k ⟨hk, hall⟩
  refine Wk.seq ?_
  refine Wk.seq ?_
  refine Wk.regionQ ?_
  refine Lq.op (v := .int .i64 ((k : Int))) rfl rfl rfl (OpQ.move rfl rfl) ?_
  refine Lq.op (v := va) rfl rfl rfl (OpQ.move rfl rfl) ?_
  refine Lq.op (v := .int .i64 ((xs.length : Int))) rfl rfl rfl (OpQ.lenRow rfl Tryd.runUnderlying31 rfl (ints_length _) (fun w1 hw1 => Row.own hva hw1)) ?_
  refine Lq.op (v := .bool (decide (((k : Int)) < ((xs.length : Int))))) rfl rfl rfl (OpQ.lss rfl rfl rfl) ?_
  refine Lq.nil ?_
  refine Kt.onSub (e' := [(1, va), (2, .pointer (some ⟨p2, 0, none⟩)), (5, .int .i64 ((k : Int))), (9, .bool (decide (((k : Int)) < ((xs.length : Int)))))]) (Sub.cons rfl (Sub.cons rfl (Sub.cons rfl (Sub.cons rfl Sub.nil)))) ?_
  refine Wk.cond (b := decide (((k : Int)) < ((xs.length : Int)))) rfl (fun h9 => ?_) (fun h9 => ?_)
  · skip
    replace h9 := of_decide_eq_true h9
    refine Wk.skip ?_
    refine Kt.onSub (e' := [(1, va), (2, .pointer (some ⟨p2, 0, none⟩)), (5, .int .i64 ((k : Int)))]) (Sub.cons rfl (Sub.cons rfl (Sub.cons rfl Sub.nil))) ?_
    refine Wk.seq ?_
    refine Wk.block ?_
    refine Wk.seq ?_
    refine Wk.regionD Base.mixed (fun _ h => h.drawn) (by kernel_rfl) ?_
    refine Lq.op (v := va) rfl rfl rfl (OpQ.move rfl rfl) ?_
    refine Lq.op (v := .int .i64 ((k : Int))) rfl rfl rfl (OpQ.move rfl rfl) ?_
    refine Lq.op (v := .pointer (some (sAt va ((k : Int))))) rfl rfl rfl (OpQ.atRow rfl Tryd.runUnderlying31 Tryd.sizeOf3 rfl rfl (by omega) (by rw [ints_length]; omega) (fun w1 hw1 => Row.own hva hw1)) ?_
    refine Lq.op (v := .int .i64 (xs.getD (((k : Int)).toNat) 0)) rfl rfl rfl (OpQ.load1 rfl Tryd.isAgg3 rfl (fun w1 hw1 => Ints.cell (Row.own hva hw1) (by omega) (by omega))) ?_
    refine Lq.op (v := .pointer (some ⟨p2, 0, none⟩)) rfl rfl rfl (OpQ.fieldAddr rfl Tryd.runUnderlying26 rfl Tryd.sizeOf3 rfl rfl) ?_
    refine Lq.op (v := .int .i64 a.n) rfl rfl rfl (OpQ.loadOwn 0 rfl Tryd.isAgg3 rfl rfl rfl) ?_
    refine Lq.op (v := .int .i64 (pred64 a.n)) rfl rfl rfl (OpQ.pred rfl rfl rfl (by omega) (by omega)) ?_
    refine Lq.op (v := .bool (inB (xs.getD (((k : Int)).toNat) 0) 0 (pred64 a.n))) rfl rfl rfl (OpQ.call rfl Tryd.call52 rfl Own.stable (fun w1 hw1 => l1In_ok (xs.getD (((k : Int)).toNat) 0) 0 (pred64 a.n) w1 )) ?_
    refine Lq.op (v := .bool (!(inB (xs.getD (((k : Int)).toNat) 0) 0 (pred64 a.n)))) rfl rfl rfl (OpQ.not rfl rfl) ?_
    refine Lq.nil ?_
    refine Kt.onSub (e' := [(1, va), (2, .pointer (some ⟨p2, 0, none⟩)), (5, .int .i64 ((k : Int))), (20, .bool (!(inB (xs.getD (((k : Int)).toNat) 0) 0 (pred64 a.n))))]) (Sub.cons rfl (Sub.cons rfl (Sub.cons rfl (Sub.cons rfl Sub.nil)))) ?_
    refine Wk.cond (b := !(inB (xs.getD (((k : Int)).toNat) 0) 0 (pred64 a.n))) rfl (fun h20 => ?_) (fun h20 => ?_)
    · skip
      replace h20 := not_true h20
      refine Wk.seq ?_
      refine Wk.regionQ ?_
      refine Lq.op (v := .bool false) rfl rfl rfl (OpQ.assign rfl rfl) ?_
      refine Lq.nil ?_
      refine Kt.onSub (e' := [(4, .bool false)]) (Sub.cons rfl Sub.nil) ?_
      refine Wk.ret (Kt.end1 rfl rfl fun w' hw => ?_)
      -- ret 0: .bool false
      exact ⟨ret_b (list_no (i := k) (by omega) (by simpa using h20)).symm, hw.below⟩
    · skip
      replace h20 := not_false h20
      refine Wk.skip ?_
      refine Kt.onSub (e' := [(1, va), (2, .pointer (some ⟨p2, 0, none⟩)), (5, .int .i64 ((k : Int)))]) (Sub.cons rfl (Sub.cons rfl (Sub.cons rfl Sub.nil))) ?_
      refine Wk.regionQ ?_
      refine Lq.op (v := .int .i64 ((k : Int))) rfl rfl rfl (OpQ.move rfl rfl) ?_
      refine Lq.op (v := .int .i64 (((k : Int)) + (1 : Int))) rfl rfl rfl (OpQ.add rfl rfl rfl (by omega) (by omega)) ?_
      refine Lq.op (v := .int .i64 (((k : Int)) + (1 : Int))) rfl rfl rfl (OpQ.assign rfl rfl) ?_
      refine Lq.nil ?_
      refine Kt.again (k + 1) ⟨by omega, fun i hi => (Nat.lt_succ_iff_lt_or_eq.1 hi).elim (hall i) (fun e => by subst e; simpa using h20)⟩ (by omega) (Sub.cons rfl (Sub.cons rfl (Sub.cons rfl Sub.nil))) (fun _ h => h)
  · skip
    replace h9 := of_decide_eq_false h9
    refine Wk.exit rfl ?_
    refine Kt.onSub (e' := [(1, va), (2, .pointer (some ⟨p2, 0, none⟩))]) (Sub.cons rfl (Sub.cons rfl Sub.nil)) ?_
    refine Wk.seq ?_
    refine Wk.regionQ ?_
    refine Lq.op (v := vS a) rfl rfl rfl (OpQ.loadBox (cs := #[.int .i64 a.n, str a.set, str a.rel]) 0 rfl Tryd.isAgg26 rfl rfl Tryd.sizeOf26) ?_
    refine Lq.op (v := .bool (validB a)) rfl rfl rfl (OpQ.call rfl Tryd.call51 rfl Own.stable (fun w1 hw1 => sValid_ok a w1 hsa)) ?_
    refine Lq.op (v := .bool (validB a)) rfl rfl rfl (OpQ.move rfl rfl) ?_
    refine Lq.bool fun b23 hg23 => ?_
    cases b23
    · skip
      refine Lq.pass rfl rfl rfl ?_
      refine Lq.pass rfl rfl rfl ?_
      refine Lq.pass rfl rfl rfl ?_
      refine Lq.op (v := .bool false) rfl rfl rfl (OpQ.pickF rfl rfl rfl) ?_
      refine Lq.op (v := .bool false) rfl rfl rfl (OpQ.assign rfl rfl) ?_
      refine Lq.nil ?_
      refine Kt.onSub (e' := [(4, .bool false)]) (Sub.cons rfl Sub.nil) ?_
      refine Wk.ret (Kt.end1 rfl rfl fun w' hw => ?_)
      -- ret 1: .bool false
      exact ⟨ret_b (by rw [list_yes (fun i hi => hall i (by omega))]; simp [*]), hw.below⟩
    · skip
      refine Lq.op (v := va) rfl rfl rfl (OpQ.move rfl rfl) ?_
      refine Lq.op (v := .int .i64 ((xs.length : Int))) rfl rfl rfl (OpQ.lenRow rfl Tryd.runUnderlying31 rfl (ints_length _) (fun w1 hw1 => Row.own hva hw1)) ?_
      refine Lq.op (v := .bool (decide (((xs.length : Int)) ≤ (4 : Int)))) rfl rfl rfl (OpQ.leq rfl rfl rfl) ?_
      refine Lq.op (v := .bool (decide (((xs.length : Int)) ≤ (4 : Int)))) rfl rfl rfl (OpQ.pickT rfl rfl rfl) ?_
      refine Lq.op (v := .bool (decide (((xs.length : Int)) ≤ (4 : Int)))) rfl rfl rfl (OpQ.assign rfl rfl) ?_
      refine Lq.nil ?_
      refine Kt.onSub (e' := [(4, .bool (decide (((xs.length : Int)) ≤ (4 : Int))))]) (Sub.cons rfl Sub.nil) ?_
      refine Wk.ret (Kt.end1 rfl rfl fun w' hw => ?_)
      -- ret 2: .bool (decide (((xs.length : Int)) ≤ (4 : Int)))
      exact ⟨ret_b (by rw [list_yes (fun i hi => hall i (by omega))]; simp [*]), hw.below⟩

set_option maxHeartbeats 400000 in
/-- impl.areLists -/
theorem areLists_ok (a b : St) (xs ys : List Int) (va vb : Value) (w : World) (hsa : a.Small) (hsb : b.Small) (hva : Ints w va xs) (hvb : Ints w vb ys) (hs1 : xs.length ≤ 140737488355328) (hs2 : ys.length ≤ 140737488355328) :
    Calls Tryd.prog 65 [vS a, va, vS b, vb].toArray w fun en w' => en = .returned (.bool (listsB a xs b ys)) ∧ Below w.heap.size w w' := by
  refine fnStart (n := 24) (e := [(0, vS a), (1, va), (2, vS b), (3, vb)]) Tryd.func65 rfl rfl rfl rfl Ends.both ?_
  refine Wk.seq ?_
  refine Wk.region ?_
  refine Ll.box (v := vS a) rfl rfl rfl rfl rfl fun p4 hp4 => ?_
  show Ll _ _ (Own _ _ [(p4, .cells #[.int .i64 a.n, str a.set, str a.rel] 26 (0, 0))]) _ _ ((4, .pointer (some ⟨p4, 0, none⟩)) :: _) _ _ _
  refine Ll.box (v := vS b) rfl rfl rfl rfl rfl fun p6 hp6 => ?_
  show Ll _ _ (Own _ _ [(p6, .cells #[.int .i64 b.n, str b.set, str b.rel] 26 (0, 0)), (p4, .cells #[.int .i64 a.n, str a.set, str a.rel] 26 (0, 0))]) _ _ ((6, .pointer (some ⟨p6, 0, none⟩)) :: _) _ _ _
  refine Ll.op (v := .bool false) rfl rfl rfl (OpQ.assign rfl rfl) ?_
  refine Ll.nil ?_
  refine Kt.onSub (e' := [(1, va), (3, vb), (4, .pointer (some ⟨p4, 0, none⟩)), (6, .pointer (some ⟨p6, 0, none⟩))]) (Sub.cons rfl (Sub.cons rfl (Sub.cons rfl (Sub.cons rfl Sub.nil)))) ?_
  refine Wk.seq ?_
  refine Wk.regionQ ?_
  refine Lq.op (v := vS a) rfl rfl rfl (OpQ.loadBox (cs := #[.int .i64 a.n, str a.set, str a.rel]) 1 rfl Tryd.isAgg26 rfl rfl Tryd.sizeOf26) ?_
  refine Lq.op (v := va) rfl rfl rfl (OpQ.move rfl rfl) ?_
  refine Lq.op (v := .bool (listB a xs)) rfl rfl rfl (OpQ.call rfl Tryd.call102 rfl Own.stable (fun w1 hw1 => isList_ok a va xs w1 hsa (Row.own hva hw1) (by first | (simp; done) | (simp; omega) | omega))) ?_
  refine Lq.op (v := .bool (listB a xs)) rfl rfl rfl (OpQ.move rfl rfl) ?_
  refine Lq.bool fun b12 hg12 => ?_
  cases b12
  · skip
    refine Lq.pass rfl rfl rfl ?_
    refine Lq.pass rfl rfl rfl ?_
    refine Lq.pass rfl rfl rfl ?_
    refine Lq.op (v := .bool false) rfl rfl rfl (OpQ.pickF rfl rfl rfl) ?_
    refine Lq.op (v := .bool false) rfl rfl rfl (OpQ.move rfl rfl) ?_
    refine Lq.pass rfl rfl rfl ?_
    refine Lq.pass rfl rfl rfl ?_
    refine Lq.pass rfl rfl rfl ?_
    refine Lq.pass rfl rfl rfl ?_
    refine Lq.pass rfl rfl rfl ?_
    refine Lq.op (v := .bool false) rfl rfl rfl (OpQ.pickF rfl rfl rfl) ?_
    refine Lq.op (v := .bool false) rfl rfl rfl (OpQ.assign rfl rfl) ?_
    refine Lq.nil ?_
    refine Kt.onSub (e' := [(8, .bool false)]) (Sub.cons rfl Sub.nil) ?_
    refine Wk.ret (Kt.end1 rfl rfl fun w' hw => ?_)
    -- ret 0: .bool false
    exact ⟨ret_b (by unfold listsB; simp [*]), hw.below⟩
  · skip
    refine Lq.op (v := vS b) rfl rfl rfl (OpQ.loadBox (cs := #[.int .i64 b.n, str b.set, str b.rel]) 0 rfl Tryd.isAgg26 rfl rfl Tryd.sizeOf26) ?_
    refine Lq.op (v := vb) rfl rfl rfl (OpQ.move rfl rfl) ?_
    refine Lq.op (v := .bool (listB b ys)) rfl rfl rfl (OpQ.call rfl Tryd.call102 rfl Own.stable (fun w1 hw1 => isList_ok b vb ys w1 hsb (Row.own hvb hw1) (by first | (simp; done) | (simp; omega) | omega))) ?_
    refine Lq.op (v := .bool (listB b ys)) rfl rfl rfl (OpQ.pickT rfl rfl rfl) ?_
    refine Lq.op (v := .bool (listB b ys)) rfl rfl rfl (OpQ.move rfl rfl) ?_
    refine Lq.bool fun b17 hg17 => ?_
    cases b17
    · skip
      refine Lq.pass rfl rfl rfl ?_
      refine Lq.pass rfl rfl rfl ?_
      refine Lq.pass rfl rfl rfl ?_
      refine Lq.pass rfl rfl rfl ?_
      refine Lq.pass rfl rfl rfl ?_
      refine Lq.op (v := .bool false) rfl rfl rfl (OpQ.pickF rfl rfl rfl) ?_
      refine Lq.op (v := .bool false) rfl rfl rfl (OpQ.assign rfl rfl) ?_
      refine Lq.nil ?_
      refine Kt.onSub (e' := [(8, .bool false)]) (Sub.cons rfl Sub.nil) ?_
      refine Wk.ret (Kt.end1 rfl rfl fun w' hw => ?_)
      -- ret 1: .bool false
      exact ⟨ret_b (by unfold listsB; simp [*]), hw.below⟩
    · skip
      refine Lq.op (v := va) rfl rfl rfl (OpQ.move rfl rfl) ?_
      refine Lq.op (v := .int .i64 ((xs.length : Int))) rfl rfl rfl (OpQ.lenRow rfl Tryd.runUnderlying31 rfl (ints_length _) (fun w1 hw1 => Row.own hva hw1)) ?_
      refine Lq.op (v := vb) rfl rfl rfl (OpQ.move rfl rfl) ?_
      refine Lq.op (v := .int .i64 ((ys.length : Int))) rfl rfl rfl (OpQ.lenRow rfl Tryd.runUnderlying31 rfl (ints_length _) (fun w1 hw1 => Row.own hvb hw1)) ?_
      refine Lq.op (v := .bool (decide (((xs.length : Int)) = ((ys.length : Int))))) rfl rfl rfl (OpQ.eql rfl rfl rfl) ?_
      refine Lq.op (v := .bool (decide (((xs.length : Int)) = ((ys.length : Int))))) rfl rfl rfl (OpQ.pickT rfl rfl rfl) ?_
      refine Lq.op (v := .bool (decide (((xs.length : Int)) = ((ys.length : Int))))) rfl rfl rfl (OpQ.assign rfl rfl) ?_
      refine Lq.nil ?_
      refine Kt.onSub (e' := [(8, .bool (decide (((xs.length : Int)) = ((ys.length : Int)))))]) (Sub.cons rfl Sub.nil) ?_
      refine Wk.ret (Kt.end1 rfl rfl fun w' hw => ?_)
      -- ret 2: .bool (decide (((xs.length : Int)) = ((ys.length : Int))))
      exact ⟨ret_b (by unfold listsB; simp [*]), hw.below⟩

set_option maxHeartbeats 400000 in
/-- spec.l4Lists -/
theorem l4Lists_ok (a b : St) (xs ys : List Int) (va vb : Value) (w : World) (hsa : a.Small) (hsb : b.Small) (hva : Ints w va xs) (hvb : Ints w vb ys) (hs1 : xs.length ≤ 140737488355328) (hs2 : ys.length ≤ 140737488355328) (loa : -9223372036854775808 ≤ a.n) (hia : a.n ≤ 9223372036854775807) (lob : -9223372036854775808 ≤ b.n) (hib : b.n ≤ 9223372036854775807) :
    Calls Tryd.prog 64 [vS a, va, vS b, vb].toArray w fun en w' => en = .returned (.bool (listsB a xs b ys)) ∧ Below w.heap.size w w' := by
  refine fnStart (n := 24) (e := [(0, vS a), (1, va), (2, vS b), (3, vb)]) Tryd.func64 rfl rfl rfl rfl Ends.both ?_
  refine Wk.seq ?_
  refine Wk.region ?_
  refine Ll.box (v := vS a) rfl rfl rfl rfl rfl fun p4 hp4 => ?_
  show Ll _ _ (Own _ _ [(p4, .cells #[.int .i64 a.n, str a.set, str a.rel] 26 (0, 0))]) _ _ ((4, .pointer (some ⟨p4, 0, none⟩)) :: _) _ _ _
  refine Ll.box (v := vS b) rfl rfl rfl rfl rfl fun p6 hp6 => ?_
  show Ll _ _ (Own _ _ [(p6, .cells #[.int .i64 b.n, str b.set, str b.rel] 26 (0, 0)), (p4, .cells #[.int .i64 a.n, str a.set, str a.rel] 26 (0, 0))]) _ _ ((6, .pointer (some ⟨p6, 0, none⟩)) :: _) _ _ _
  refine Ll.op (v := .bool false) rfl rfl rfl (OpQ.assign rfl rfl) ?_
  refine Ll.nil ?_
  refine Kt.onSub (e' := [(1, va), (3, vb), (4, .pointer (some ⟨p4, 0, none⟩)), (6, .pointer (some ⟨p6, 0, none⟩))]) (Sub.cons rfl (Sub.cons rfl (Sub.cons rfl (Sub.cons rfl Sub.nil)))) ?_
  refine Wk.seq ?_
  refine Wk.regionQ ?_
  refine Lq.op (v := vS a) rfl rfl rfl (OpQ.loadBox (cs := #[.int .i64 a.n, str a.set, str a.rel]) 1 rfl Tryd.isAgg26 rfl rfl Tryd.sizeOf26) ?_
  refine Lq.op (v := va) rfl rfl rfl (OpQ.move rfl rfl) ?_
  refine Lq.op (v := .bool (listB a xs)) rfl rfl rfl (OpQ.call rfl Tryd.call95 rfl Own.stable (fun w1 hw1 => l4List_ok a va xs w1 hsa (Row.own hva hw1) (by first | (simp; done) | (simp; omega) | omega) loa hia)) ?_
  refine Lq.op (v := .bool (listB a xs)) rfl rfl rfl (OpQ.move rfl rfl) ?_
  refine Lq.bool fun b12 hg12 => ?_
  cases b12
  · skip
    refine Lq.pass rfl rfl rfl ?_
    refine Lq.pass rfl rfl rfl ?_
    refine Lq.pass rfl rfl rfl ?_
    refine Lq.op (v := .bool false) rfl rfl rfl (OpQ.pickF rfl rfl rfl) ?_
    refine Lq.op (v := .bool false) rfl rfl rfl (OpQ.move rfl rfl) ?_
    refine Lq.pass rfl rfl rfl ?_
    refine Lq.pass rfl rfl rfl ?_
    refine Lq.pass rfl rfl rfl ?_
    refine Lq.pass rfl rfl rfl ?_
    refine Lq.pass rfl rfl rfl ?_
    refine Lq.op (v := .bool false) rfl rfl rfl (OpQ.pickF rfl rfl rfl) ?_
    refine Lq.op (v := .bool false) rfl rfl rfl (OpQ.assign rfl rfl) ?_
    refine Lq.nil ?_
    refine Kt.onSub (e' := [(8, .bool false)]) (Sub.cons rfl Sub.nil) ?_
    refine Wk.ret (Kt.end1 rfl rfl fun w' hw => ?_)
    -- ret 0: .bool false
    exact ⟨ret_b (by unfold listsB; simp [*]), hw.below⟩
  · skip
    refine Lq.op (v := vS b) rfl rfl rfl (OpQ.loadBox (cs := #[.int .i64 b.n, str b.set, str b.rel]) 0 rfl Tryd.isAgg26 rfl rfl Tryd.sizeOf26) ?_
    refine Lq.op (v := vb) rfl rfl rfl (OpQ.move rfl rfl) ?_
    refine Lq.op (v := .bool (listB b ys)) rfl rfl rfl (OpQ.call rfl Tryd.call95 rfl Own.stable (fun w1 hw1 => l4List_ok b vb ys w1 hsb (Row.own hvb hw1) (by first | (simp; done) | (simp; omega) | omega) lob hib)) ?_
    refine Lq.op (v := .bool (listB b ys)) rfl rfl rfl (OpQ.pickT rfl rfl rfl) ?_
    refine Lq.op (v := .bool (listB b ys)) rfl rfl rfl (OpQ.move rfl rfl) ?_
    refine Lq.bool fun b17 hg17 => ?_
    cases b17
    · skip
      refine Lq.pass rfl rfl rfl ?_
      refine Lq.pass rfl rfl rfl ?_
      refine Lq.pass rfl rfl rfl ?_
      refine Lq.pass rfl rfl rfl ?_
      refine Lq.pass rfl rfl rfl ?_
      refine Lq.op (v := .bool false) rfl rfl rfl (OpQ.pickF rfl rfl rfl) ?_
      refine Lq.op (v := .bool false) rfl rfl rfl (OpQ.assign rfl rfl) ?_
      refine Lq.nil ?_
      refine Kt.onSub (e' := [(8, .bool false)]) (Sub.cons rfl Sub.nil) ?_
      refine Wk.ret (Kt.end1 rfl rfl fun w' hw => ?_)
      -- ret 1: .bool false
      exact ⟨ret_b (by unfold listsB; simp [*]), hw.below⟩
    · skip
      refine Lq.op (v := va) rfl rfl rfl (OpQ.move rfl rfl) ?_
      refine Lq.op (v := .int .i64 ((xs.length : Int))) rfl rfl rfl (OpQ.lenRow rfl Tryd.runUnderlying31 rfl (ints_length _) (fun w1 hw1 => Row.own hva hw1)) ?_
      refine Lq.op (v := vb) rfl rfl rfl (OpQ.move rfl rfl) ?_
      refine Lq.op (v := .int .i64 ((ys.length : Int))) rfl rfl rfl (OpQ.lenRow rfl Tryd.runUnderlying31 rfl (ints_length _) (fun w1 hw1 => Row.own hvb hw1)) ?_
      refine Lq.op (v := .bool (decide (((xs.length : Int)) = ((ys.length : Int))))) rfl rfl rfl (OpQ.eql rfl rfl rfl) ?_
      refine Lq.op (v := .bool (decide (((xs.length : Int)) = ((ys.length : Int))))) rfl rfl rfl (OpQ.pickT rfl rfl rfl) ?_
      refine Lq.op (v := .bool (decide (((xs.length : Int)) = ((ys.length : Int))))) rfl rfl rfl (OpQ.assign rfl rfl) ?_
      refine Lq.nil ?_
      refine Kt.onSub (e' := [(8, .bool (decide (((xs.length : Int)) = ((ys.length : Int)))))]) (Sub.cons rfl Sub.nil) ?_
      refine Wk.ret (Kt.end1 rfl rfl fun w' hw => ?_)
      -- ret 2: .bool (decide (((xs.length : Int)) = ((ys.length : Int))))
      exact ⟨ret_b (by unfold listsB; simp [*]), hw.below⟩

set_option maxHeartbeats 400000 in
/-- impl.stillSame -/
theorem stillSame_ok (a b : St) (xs ys : List Int) (va vb : Value) (x y : Int) (w : World) (ha : a.Fine) (hb : b.Fine) (hva : Ints w va xs) (hvb : Ints w vb ys) (hA : a.Els xs) (hB : b.Els ys) (hlen : xs.length = ys.length) (hsmall : xs.length ≤ 1000000) (hx : a.El x) (hy : b.El y) :
    Calls Tryd.prog 81 [vS a, va, vS b, vb, .int .i64 x, .int .i64 y].toArray w fun en w' => en = .returned (.bool (stillB a xs b ys x y)) ∧ Below w.heap.size w w' := by
  refine fnStart (n := 75) (e := [(0, vS a), (1, va), (2, vS b), (3, vb), (4, .int .i64 x), (5, .int .i64 y)]) Tryd.func81 rfl rfl rfl rfl Ends.both ?_
  have hT := stillB_true (a := a) (b := b) (x := x) (y := y) hlen
  refine Wk.seq ?_
  refine Wk.region ?_
  refine Ll.box (v := vS a) rfl rfl rfl rfl rfl fun p6 hp6 => ?_
  show Ll _ _ (Own _ _ [(p6, .cells #[.int .i64 a.n, str a.set, str a.rel] 26 (0, 0))]) _ _ ((6, .pointer (some ⟨p6, 0, none⟩)) :: _) _ _ _
  refine Ll.box (v := vS b) rfl rfl rfl rfl rfl fun p8 hp8 => ?_
  show Ll _ _ (Own _ _ [(p8, .cells #[.int .i64 b.n, str b.set, str b.rel] 26 (0, 0)), (p6, .cells #[.int .i64 a.n, str a.set, str a.rel] 26 (0, 0))]) _ _ ((8, .pointer (some ⟨p8, 0, none⟩)) :: _) _ _ _
  refine Ll.op (v := .bool false) rfl rfl rfl (OpQ.assign rfl rfl) ?_
  refine Ll.nil ?_
  refine Kt.onSub (e' := [(1, va), (3, vb), (4, .int .i64 x), (5, .int .i64 y), (6, .pointer (some ⟨p6, 0, none⟩)), (8, .pointer (some ⟨p8, 0, none⟩))]) (Sub.cons rfl (Sub.cons rfl (Sub.cons rfl (Sub.cons rfl (Sub.cons rfl (Sub.cons rfl Sub.nil)))))) ?_
  refine Wk.seq ?_
  refine Wk.seq ?_
  refine Wk.regionD Base.mixed (fun _ h => h.drawn) (by kernel_rfl) ?_
  refine Lq.op (v := vS a) rfl rfl rfl (OpQ.loadBox (cs := #[.int .i64 a.n, str a.set, str a.rel]) 1 rfl Tryd.isAgg26 rfl rfl Tryd.sizeOf26) ?_
  refine Lq.op (v := .int .i64 x) rfl rfl rfl (OpQ.move rfl rfl) ?_
  refine Lq.op (v := .bool (a.inSet x)) rfl rfl rfl (OpQ.call rfl Tryd.call115 rfl Own.stable (fun w1 hw1 => inSet_ok a x w1 ha (by first | assumption | exact St.Els.at (by assumption) (by omega) (by omega)))) ?_
  refine Lq.op (v := vS b) rfl rfl rfl (OpQ.loadBox (cs := #[.int .i64 b.n, str b.set, str b.rel]) 0 rfl Tryd.isAgg26 rfl rfl Tryd.sizeOf26) ?_
  refine Lq.op (v := .int .i64 y) rfl rfl rfl (OpQ.move rfl rfl) ?_
  refine Lq.op (v := .bool (b.inSet y)) rfl rfl rfl (OpQ.call rfl Tryd.call115 rfl Own.stable (fun w1 hw1 => inSet_ok b y w1 hb (by first | assumption | exact St.Els.at (by assumption) (by omega) (by omega)))) ?_
  refine Lq.op (v := .bool ((a.inSet x) != (b.inSet y))) rfl rfl rfl (OpQ.bne rfl Tryd.runUnderlying4 rfl rfl) ?_
  refine Lq.op (v := .bool ((a.inSet x) != (b.inSet y))) rfl rfl rfl (OpQ.move rfl rfl) ?_
  refine Lq.bool fun b23 hg23 => ?_
  cases b23
  · skip
    refine Lq.op (v := vS a) rfl rfl rfl (OpQ.loadBox (cs := #[.int .i64 a.n, str a.set, str a.rel]) 1 rfl Tryd.isAgg26 rfl rfl Tryd.sizeOf26) ?_
    refine Lq.op (v := .int .i64 x) rfl rfl rfl (OpQ.move rfl rfl) ?_
    refine Lq.op (v := .int .i64 x) rfl rfl rfl (OpQ.move rfl rfl) ?_
    refine Lq.op (v := .bool (a.inRel x x)) rfl rfl rfl (OpQ.call rfl Tryd.call116 rfl Own.stable (fun w1 hw1 => inRel_ok a x x w1 ha (by first | assumption | exact St.Els.at (by assumption) (by omega) (by omega)) (by first | assumption | exact St.Els.at (by assumption) (by omega) (by omega)))) ?_
    refine Lq.op (v := vS b) rfl rfl rfl (OpQ.loadBox (cs := #[.int .i64 b.n, str b.set, str b.rel]) 0 rfl Tryd.isAgg26 rfl rfl Tryd.sizeOf26) ?_
    refine Lq.op (v := .int .i64 y) rfl rfl rfl (OpQ.move rfl rfl) ?_
    refine Lq.op (v := .int .i64 y) rfl rfl rfl (OpQ.move rfl rfl) ?_
    refine Lq.op (v := .bool (b.inRel y y)) rfl rfl rfl (OpQ.call rfl Tryd.call116 rfl Own.stable (fun w1 hw1 => inRel_ok b y y w1 hb (by first | assumption | exact St.Els.at (by assumption) (by omega) (by omega)) (by first | assumption | exact St.Els.at (by assumption) (by omega) (by omega)))) ?_
    refine Lq.op (v := .bool ((a.inRel x x) != (b.inRel y y))) rfl rfl rfl (OpQ.bne rfl Tryd.runUnderlying4 rfl rfl) ?_
    refine Lq.op (v := .bool ((a.inRel x x) != (b.inRel y y))) rfl rfl rfl (OpQ.pickF rfl rfl rfl) ?_
    refine Lq.nil ?_
    refine Kt.onSub (e' := [(1, va), (3, vb), (4, .int .i64 x), (5, .int .i64 y), (6, .pointer (some ⟨p6, 0, none⟩)), (8, .pointer (some ⟨p8, 0, none⟩)), (33, .bool ((a.inRel x x) != (b.inRel y y)))]) (Sub.cons rfl (Sub.cons rfl (Sub.cons rfl (Sub.cons rfl (Sub.cons rfl (Sub.cons rfl (Sub.cons rfl Sub.nil))))))) ?_
    refine Wk.cond (b := (a.inRel x x) != (b.inRel y y)) rfl (fun h33 => ?_) (fun h33 => ?_)
    · skip
      refine Wk.seq ?_
      refine Wk.regionQ ?_
      refine Lq.op (v := .bool false) rfl rfl rfl (OpQ.assign rfl rfl) ?_
      refine Lq.nil ?_
      refine Kt.onSub (e' := [(12, .bool false)]) (Sub.cons rfl Sub.nil) ?_
      refine Wk.ret (Kt.end1 rfl rfl fun w' hw => ?_)
      -- ret 0: .bool false
      have hf : stillB a xs b ys x y = false := by
        cases hs : stillB a xs b ys x y with
        | false => rfl
        | true => obtain ⟨e1, e2, e3⟩ := hT.1 hs; simp_all
      exact ⟨by rw [hf], hw.below⟩
    · skip
      refine Wk.skip ?_
      refine Kt.onSub (e' := [(1, va), (3, vb), (4, .int .i64 x), (5, .int .i64 y), (6, .pointer (some ⟨p6, 0, none⟩)), (8, .pointer (some ⟨p8, 0, none⟩))]) (Sub.cons rfl (Sub.cons rfl (Sub.cons rfl (Sub.cons rfl (Sub.cons rfl (Sub.cons rfl Sub.nil)))))) ?_
      refine Wk.seq ?_
      refine Wk.seq ?_
      refine Wk.regionQ ?_
      refine Lq.op (v := va) rfl rfl rfl (OpQ.move rfl rfl) ?_
      refine Lq.op (v := .int .i64 ((xs.length : Int))) rfl rfl rfl (OpQ.lenRow rfl Tryd.runUnderlying31 rfl (ints_length _) (fun w1 hw1 => Row.own hva hw1)) ?_
      refine Lq.op (v := .int .i64 0) rfl rfl rfl (OpQ.move rfl rfl) ?_
      refine Lq.nil ?_
      refine Kt.onSub (e' := [(3, vb), (4, .int .i64 x), (5, .int .i64 y), (6, .pointer (some ⟨p6, 0, none⟩)), (8, .pointer (some ⟨p8, 0, none⟩)), (34, va), (35, .int .i64 ((xs.length : Int))), (36, .int .i64 0)]) (Sub.cons rfl (Sub.cons rfl (Sub.cons rfl (Sub.cons rfl (Sub.cons rfl (Sub.cons rfl (Sub.cons rfl (Sub.cons rfl Sub.nil)))))))) ?_
      refine Wk.block ?_
      refine Wk.loop (σ := Nat) (fun k => k ≤ xs.length ∧ ∀ i : Nat, i < k → pairOk a b x y (xs.getD i 0) (ys.getD i 0) = true) (fun k => [(3, vb), (4, .int .i64 x), (5, .int .i64 y), (6, .pointer (some ⟨p6, 0, none⟩)), (8, .pointer (some ⟨p8, 0, none⟩)), (34, va), (35, .int .i64 ((xs.length : Int))), (36, .int .i64 ((k : Int)))]) (fun k => Own w.heap.size w [(p8, .cells #[.int .i64 b.n, str b.set, str b.rel] 26 (0, 0)), (p6, .cells #[.int .i64 a.n, str a.set, str a.rel] 26 (0, 0))]) (fun k => xs.length - k) (0) ⟨by omega, fun i hi => absurd hi (by omega)⟩ (Sub.cons rfl (Sub.cons rfl (Sub.cons rfl (Sub.cons rfl (Sub.cons rfl (Sub.cons rfl (Sub.cons rfl (Sub.cons rfl Sub.nil)))))))) (fun _ h => h) ?_
      rintro k ⟨hk, hall⟩
      refine Wk.seq ?_
      refine Wk.regionQ ?_
      refine Lq.op (v := .bool (decide (((k : Int)) < ((xs.length : Int))))) rfl rfl rfl (OpQ.lss rfl rfl rfl) ?_
      refine Lq.nil ?_
      refine Kt.onSub (e' := [(3, vb), (4, .int .i64 x), (5, .int .i64 y), (6, .pointer (some ⟨p6, 0, none⟩)), (8, .pointer (some ⟨p8, 0, none⟩)), (34, va), (35, .int .i64 ((xs.length : Int))), (36, .int .i64 ((k : Int))), (37, .bool (decide (((k : Int)) < ((xs.length : Int)))))]) (Sub.cons rfl (Sub.cons rfl (Sub.cons rfl (Sub.cons rfl (Sub.cons rfl (Sub.cons rfl (Sub.cons rfl (Sub.cons rfl (Sub.cons rfl Sub.nil))))))))) ?_
      refine Wk.seq ?_
      refine Wk.cond (b := decide (((k : Int)) < ((xs.length : Int)))) rfl (fun h37 => ?_) (fun h37 => ?_)
      · skip
        replace h37 := of_decide_eq_true h37
        refine Wk.skip ?_
        refine Kt.onSub (e' := [(3, vb), (4, .int .i64 x), (5, .int .i64 y), (6, .pointer (some ⟨p6, 0, none⟩)), (8, .pointer (some ⟨p8, 0, none⟩)), (34, va), (35, .int .i64 ((xs.length : Int))), (36, .int .i64 ((k : Int)))]) (Sub.cons rfl (Sub.cons rfl (Sub.cons rfl (Sub.cons rfl (Sub.cons rfl (Sub.cons rfl (Sub.cons rfl (Sub.cons rfl Sub.nil)))))))) ?_
        refine Wk.seq ?_
        refine Wk.block ?_
        refine Wk.seq ?_
        refine Wk.regionQ ?_
        refine Lq.op (v := .int .i64 ((k : Int))) rfl rfl rfl (OpQ.move rfl rfl) ?_
        refine Lq.op (v := .pointer (some (sAt va ((k : Int))))) rfl rfl rfl (OpQ.atRow rfl Tryd.runUnderlying31 Tryd.sizeOf3 rfl rfl (by omega) (by rw [ints_length]; omega) (fun w1 hw1 => Row.own hva hw1)) ?_
        refine Lq.op (v := .int .i64 (xs.getD (((k : Int)).toNat) 0)) rfl rfl rfl (OpQ.load1 rfl Tryd.isAgg3 rfl (fun w1 hw1 => Ints.cell (Row.own hva hw1) (by omega) (by omega))) ?_
        refine Lq.op (v := .int .i64 ((k : Int))) rfl rfl rfl (OpQ.assign rfl rfl) ?_
        refine Lq.op (v := .int .i64 (xs.getD (((k : Int)).toNat) 0)) rfl rfl rfl (OpQ.assign rfl rfl) ?_
        refine Lq.nil ?_
        refine Kt.onSub (e' := [(3, vb), (4, .int .i64 x), (5, .int .i64 y), (6, .pointer (some ⟨p6, 0, none⟩)), (8, .pointer (some ⟨p8, 0, none⟩)), (13, .int .i64 ((k : Int))), (14, .int .i64 (xs.getD (((k : Int)).toNat) 0)), (34, va), (35, .int .i64 ((xs.length : Int))), (36, .int .i64 ((k : Int)))]) (Sub.cons rfl (Sub.cons rfl (Sub.cons rfl (Sub.cons rfl (Sub.cons rfl (Sub.cons rfl (Sub.cons rfl (Sub.cons rfl (Sub.cons rfl (Sub.cons rfl Sub.nil)))))))))) ?_
        refine Wk.seq ?_
        refine Wk.regionQ ?_
        refine Lq.op (v := vb) rfl rfl rfl (OpQ.move rfl rfl) ?_
        refine Lq.op (v := .int .i64 ((k : Int))) rfl rfl rfl (OpQ.move rfl rfl) ?_
        refine Lq.op (v := .pointer (some (sAt vb ((k : Int))))) rfl rfl rfl (OpQ.atRow rfl Tryd.runUnderlying31 Tryd.sizeOf3 rfl rfl (by omega) (by rw [ints_length]; omega) (fun w1 hw1 => Row.own hvb hw1)) ?_
        refine Lq.op (v := .int .i64 (ys.getD (((k : Int)).toNat) 0)) rfl rfl rfl (OpQ.load1 rfl Tryd.isAgg3 rfl (fun w1 hw1 => Ints.cell (Row.own hvb hw1) (by omega) (by omega))) ?_
        refine Lq.op (v := .int .i64 (ys.getD (((k : Int)).toNat) 0)) rfl rfl rfl (OpQ.assign rfl rfl) ?_
        refine Lq.nil ?_
        refine Kt.onSub (e' := [(3, vb), (4, .int .i64 x), (5, .int .i64 y), (6, .pointer (some ⟨p6, 0, none⟩)), (8, .pointer (some ⟨p8, 0, none⟩)), (14, .int .i64 (xs.getD (((k : Int)).toNat) 0)), (15, .int .i64 (ys.getD (((k : Int)).toNat) 0)), (34, va), (35, .int .i64 ((xs.length : Int))), (36, .int .i64 ((k : Int)))]) (Sub.cons rfl (Sub.cons rfl (Sub.cons rfl (Sub.cons rfl (Sub.cons rfl (Sub.cons rfl (Sub.cons rfl (Sub.cons rfl (Sub.cons rfl (Sub.cons rfl Sub.nil)))))))))) ?_
        refine Wk.seq ?_
        refine Wk.regionD Base.mixed (fun _ h => h.drawn) (by kernel_rfl) ?_
        refine Lq.op (v := .int .i64 (xs.getD (((k : Int)).toNat) 0)) rfl rfl rfl (OpQ.move rfl rfl) ?_
        refine Lq.op (v := .int .i64 x) rfl rfl rfl (OpQ.move rfl rfl) ?_
        refine Lq.op (v := .bool (decide ((xs.getD (((k : Int)).toNat) 0) = x))) rfl rfl rfl (OpQ.eql rfl rfl rfl) ?_
        refine Lq.op (v := .int .i64 (ys.getD (((k : Int)).toNat) 0)) rfl rfl rfl (OpQ.move rfl rfl) ?_
        refine Lq.op (v := .int .i64 y) rfl rfl rfl (OpQ.move rfl rfl) ?_
        refine Lq.op (v := .bool (decide ((ys.getD (((k : Int)).toNat) 0) = y))) rfl rfl rfl (OpQ.eql rfl rfl rfl) ?_
        refine Lq.op (v := .bool ((decide ((xs.getD (((k : Int)).toNat) 0) = x)) != (decide ((ys.getD (((k : Int)).toNat) 0) = y)))) rfl rfl rfl (OpQ.bne rfl Tryd.runUnderlying4 rfl rfl) ?_
        refine Lq.op (v := .bool ((decide ((xs.getD (((k : Int)).toNat) 0) = x)) != (decide ((ys.getD (((k : Int)).toNat) 0) = y)))) rfl rfl rfl (OpQ.move rfl rfl) ?_
        refine Lq.bool fun b52 hg52 => ?_
        cases b52
        · skip
          refine Lq.op (v := vS a) rfl rfl rfl (OpQ.loadBox (cs := #[.int .i64 a.n, str a.set, str a.rel]) 1 rfl Tryd.isAgg26 rfl rfl Tryd.sizeOf26) ?_
          refine Lq.op (v := .int .i64 (xs.getD (((k : Int)).toNat) 0)) rfl rfl rfl (OpQ.move rfl rfl) ?_
          refine Lq.op (v := .int .i64 x) rfl rfl rfl (OpQ.move rfl rfl) ?_
          refine Lq.op (v := .bool (a.inRel (xs.getD (((k : Int)).toNat) 0) x)) rfl rfl rfl (OpQ.call rfl Tryd.call116 rfl Own.stable (fun w1 hw1 => inRel_ok a (xs.getD (((k : Int)).toNat) 0) x w1 ha (by first | assumption | exact St.Els.at (by assumption) (by omega) (by omega)) (by first | assumption | exact St.Els.at (by assumption) (by omega) (by omega)))) ?_
          refine Lq.op (v := vS b) rfl rfl rfl (OpQ.loadBox (cs := #[.int .i64 b.n, str b.set, str b.rel]) 0 rfl Tryd.isAgg26 rfl rfl Tryd.sizeOf26) ?_
          refine Lq.op (v := .int .i64 (ys.getD (((k : Int)).toNat) 0)) rfl rfl rfl (OpQ.move rfl rfl) ?_
          refine Lq.op (v := .int .i64 y) rfl rfl rfl (OpQ.move rfl rfl) ?_
          refine Lq.op (v := .bool (b.inRel (ys.getD (((k : Int)).toNat) 0) y)) rfl rfl rfl (OpQ.call rfl Tryd.call116 rfl Own.stable (fun w1 hw1 => inRel_ok b (ys.getD (((k : Int)).toNat) 0) y w1 hb (by first | assumption | exact St.Els.at (by assumption) (by omega) (by omega)) (by first | assumption | exact St.Els.at (by assumption) (by omega) (by omega)))) ?_
          refine Lq.op (v := .bool ((a.inRel (xs.getD (((k : Int)).toNat) 0) x) != (b.inRel (ys.getD (((k : Int)).toNat) 0) y))) rfl rfl rfl (OpQ.bne rfl Tryd.runUnderlying4 rfl rfl) ?_
          refine Lq.op (v := .bool ((a.inRel (xs.getD (((k : Int)).toNat) 0) x) != (b.inRel (ys.getD (((k : Int)).toNat) 0) y))) rfl rfl rfl (OpQ.pickF rfl rfl rfl) ?_
          refine Lq.op (v := .bool ((a.inRel (xs.getD (((k : Int)).toNat) 0) x) != (b.inRel (ys.getD (((k : Int)).toNat) 0) y))) rfl rfl rfl (OpQ.move rfl rfl) ?_
          refine Lq.bool fun b63 hg63 => ?_
          cases b63
          · skip
            refine Lq.op (v := vS a) rfl rfl rfl (OpQ.loadBox (cs := #[.int .i64 a.n, str a.set, str a.rel]) 1 rfl Tryd.isAgg26 rfl rfl Tryd.sizeOf26) ?_
            refine Lq.op (v := .int .i64 x) rfl rfl rfl (OpQ.move rfl rfl) ?_
            refine Lq.op (v := .int .i64 (xs.getD (((k : Int)).toNat) 0)) rfl rfl rfl (OpQ.move rfl rfl) ?_
            refine Lq.op (v := .bool (a.inRel x (xs.getD (((k : Int)).toNat) 0))) rfl rfl rfl (OpQ.call rfl Tryd.call116 rfl Own.stable (fun w1 hw1 => inRel_ok a x (xs.getD (((k : Int)).toNat) 0) w1 ha (by first | assumption | exact St.Els.at (by assumption) (by omega) (by omega)) (by first | assumption | exact St.Els.at (by assumption) (by omega) (by omega)))) ?_
            refine Lq.op (v := vS b) rfl rfl rfl (OpQ.loadBox (cs := #[.int .i64 b.n, str b.set, str b.rel]) 0 rfl Tryd.isAgg26 rfl rfl Tryd.sizeOf26) ?_
            refine Lq.op (v := .int .i64 y) rfl rfl rfl (OpQ.move rfl rfl) ?_
            refine Lq.op (v := .int .i64 (ys.getD (((k : Int)).toNat) 0)) rfl rfl rfl (OpQ.move rfl rfl) ?_
            refine Lq.op (v := .bool (b.inRel y (ys.getD (((k : Int)).toNat) 0))) rfl rfl rfl (OpQ.call rfl Tryd.call116 rfl Own.stable (fun w1 hw1 => inRel_ok b y (ys.getD (((k : Int)).toNat) 0) w1 hb (by first | assumption | exact St.Els.at (by assumption) (by omega) (by omega)) (by first | assumption | exact St.Els.at (by assumption) (by omega) (by omega)))) ?_
            refine Lq.op (v := .bool ((a.inRel x (xs.getD (((k : Int)).toNat) 0)) != (b.inRel y (ys.getD (((k : Int)).toNat) 0)))) rfl rfl rfl (OpQ.bne rfl Tryd.runUnderlying4 rfl rfl) ?_
            refine Lq.op (v := .bool ((a.inRel x (xs.getD (((k : Int)).toNat) 0)) != (b.inRel y (ys.getD (((k : Int)).toNat) 0)))) rfl rfl rfl (OpQ.pickF rfl rfl rfl) ?_
            refine Lq.nil ?_
            refine Kt.onSub (e' := [(3, vb), (4, .int .i64 x), (5, .int .i64 y), (6, .pointer (some ⟨p6, 0, none⟩)), (8, .pointer (some ⟨p8, 0, none⟩)), (34, va), (35, .int .i64 ((xs.length : Int))), (36, .int .i64 ((k : Int))), (73, .bool ((a.inRel x (xs.getD (((k : Int)).toNat) 0)) != (b.inRel y (ys.getD (((k : Int)).toNat) 0))))]) (Sub.cons rfl (Sub.cons rfl (Sub.cons rfl (Sub.cons rfl (Sub.cons rfl (Sub.cons rfl (Sub.cons rfl (Sub.cons rfl (Sub.cons rfl Sub.nil))))))))) ?_
            refine Wk.cond (b := (a.inRel x (xs.getD (((k : Int)).toNat) 0)) != (b.inRel y (ys.getD (((k : Int)).toNat) 0))) rfl (fun h73 => ?_) (fun h73 => ?_)
            · skip
              refine Wk.seq ?_
              refine Wk.regionQ ?_
              refine Lq.op (v := .bool false) rfl rfl rfl (OpQ.assign rfl rfl) ?_
              refine Lq.nil ?_
              refine Kt.onSub (e' := [(12, .bool false)]) (Sub.cons rfl Sub.nil) ?_
              refine Wk.ret (Kt.end1 rfl rfl fun w' hw => ?_)
              -- ret 1: .bool false
              have hf : stillB a xs b ys x y = false := by
                cases hs : stillB a xs b ys x y with
                | false => rfl
                | true =>
                  obtain ⟨e1, e2, e3⟩ := hT.1 hs
                  obtain ⟨e4, e5, e6⟩ := pairOk_true.1 (e3 k (by omega))
                  simp only [Int.toNat_natCast] at *
                  simp_all
              exact ⟨by rw [hf], hw.below⟩
            · skip
              refine Wk.skip ?_
              refine Kt.onSub (e' := [(3, vb), (4, .int .i64 x), (5, .int .i64 y), (6, .pointer (some ⟨p6, 0, none⟩)), (8, .pointer (some ⟨p8, 0, none⟩)), (34, va), (35, .int .i64 ((xs.length : Int))), (36, .int .i64 ((k : Int)))]) (Sub.cons rfl (Sub.cons rfl (Sub.cons rfl (Sub.cons rfl (Sub.cons rfl (Sub.cons rfl (Sub.cons rfl (Sub.cons rfl Sub.nil)))))))) ?_
              refine Wk.regionQ ?_
              refine Lq.op (v := .int .i64 (((k : Int)) + (1 : Int))) rfl rfl rfl (OpQ.add rfl rfl rfl (by omega) (by omega)) ?_
              refine Lq.op (v := .int .i64 (((k : Int)) + (1 : Int))) rfl rfl rfl (OpQ.move rfl rfl) ?_
              refine Lq.nil ?_
              refine Kt.again (k + 1) ⟨by omega, fun i hi => (Nat.lt_succ_iff_lt_or_eq.1 hi).elim (hall i) (fun e => by subst e; exact pairOk_true.2 ⟨by simpa using hg52, by simpa using hg63, by simpa using h73⟩)⟩ (by omega) (Sub.cons rfl (Sub.cons rfl (Sub.cons rfl (Sub.cons rfl (Sub.cons rfl (Sub.cons rfl (Sub.cons rfl (Sub.cons rfl Sub.nil)))))))) (fun _ h => h)
          · skip
            refine Lq.pass rfl rfl rfl ?_
            refine Lq.pass rfl rfl rfl ?_
            refine Lq.pass rfl rfl rfl ?_
            refine Lq.pass rfl rfl rfl ?_
            refine Lq.pass rfl rfl rfl ?_
            refine Lq.pass rfl rfl rfl ?_
            refine Lq.pass rfl rfl rfl ?_
            refine Lq.pass rfl rfl rfl ?_
            refine Lq.pass rfl rfl rfl ?_
            refine Lq.op (v := .bool true) rfl rfl rfl (OpQ.pickT rfl rfl rfl) ?_
            refine Lq.nil ?_
            refine Kt.onSub (e' := [(3, vb), (4, .int .i64 x), (5, .int .i64 y), (6, .pointer (some ⟨p6, 0, none⟩)), (8, .pointer (some ⟨p8, 0, none⟩)), (34, va), (35, .int .i64 ((xs.length : Int))), (36, .int .i64 ((k : Int))), (73, .bool true)]) (Sub.cons rfl (Sub.cons rfl (Sub.cons rfl (Sub.cons rfl (Sub.cons rfl (Sub.cons rfl (Sub.cons rfl (Sub.cons rfl (Sub.cons rfl Sub.nil))))))))) ?_
            refine Wk.condT rfl ?_
            refine Wk.seq ?_
            refine Wk.regionQ ?_
            refine Lq.op (v := .bool false) rfl rfl rfl (OpQ.assign rfl rfl) ?_
            refine Lq.nil ?_
            refine Kt.onSub (e' := [(12, .bool false)]) (Sub.cons rfl Sub.nil) ?_
            refine Wk.ret (Kt.end1 rfl rfl fun w' hw => ?_)
            -- ret 2: .bool false
            have hf : stillB a xs b ys x y = false := by
              cases hs : stillB a xs b ys x y with
              | false => rfl
              | true =>
                obtain ⟨e1, e2, e3⟩ := hT.1 hs
                obtain ⟨e4, e5, e6⟩ := pairOk_true.1 (e3 k (by omega))
                simp only [Int.toNat_natCast] at *
                simp_all
            exact ⟨by rw [hf], hw.below⟩
        · skip
          refine Lq.pass rfl rfl rfl ?_
          refine Lq.pass rfl rfl rfl ?_
          refine Lq.pass rfl rfl rfl ?_
          refine Lq.pass rfl rfl rfl ?_
          refine Lq.pass rfl rfl rfl ?_
          refine Lq.pass rfl rfl rfl ?_
          refine Lq.pass rfl rfl rfl ?_
          refine Lq.pass rfl rfl rfl ?_
          refine Lq.pass rfl rfl rfl ?_
          refine Lq.op (v := .bool true) rfl rfl rfl (OpQ.pickT rfl rfl rfl) ?_
          refine Lq.op (v := .bool true) rfl rfl rfl (OpQ.move rfl rfl) ?_
          refine Lq.pass rfl rfl rfl ?_
          refine Lq.pass rfl rfl rfl ?_
          refine Lq.pass rfl rfl rfl ?_
          refine Lq.pass rfl rfl rfl ?_
          refine Lq.pass rfl rfl rfl ?_
          refine Lq.pass rfl rfl rfl ?_
          refine Lq.pass rfl rfl rfl ?_
          refine Lq.pass rfl rfl rfl ?_
          refine Lq.pass rfl rfl rfl ?_
          refine Lq.op (v := .bool true) rfl rfl rfl (OpQ.pickT rfl rfl rfl) ?_
          refine Lq.nil ?_
          refine Kt.onSub (e' := [(3, vb), (4, .int .i64 x), (5, .int .i64 y), (6, .pointer (some ⟨p6, 0, none⟩)), (8, .pointer (some ⟨p8, 0, none⟩)), (34, va), (35, .int .i64 ((xs.length : Int))), (36, .int .i64 ((k : Int))), (73, .bool true)]) (Sub.cons rfl (Sub.cons rfl (Sub.cons rfl (Sub.cons rfl (Sub.cons rfl (Sub.cons rfl (Sub.cons rfl (Sub.cons rfl (Sub.cons rfl Sub.nil))))))))) ?_
          refine Wk.condT rfl ?_
          refine Wk.seq ?_
          refine Wk.regionQ ?_
          refine Lq.op (v := .bool false) rfl rfl rfl (OpQ.assign rfl rfl) ?_
          refine Lq.nil ?_
          refine Kt.onSub (e' := [(12, .bool false)]) (Sub.cons rfl Sub.nil) ?_
          refine Wk.ret (Kt.end1 rfl rfl fun w' hw => ?_)
          -- ret 3: .bool false
          have hf : stillB a xs b ys x y = false := by
            cases hs : stillB a xs b ys x y with
            | false => rfl
            | true =>
              obtain ⟨e1, e2, e3⟩ := hT.1 hs
              obtain ⟨e4, e5, e6⟩ := pairOk_true.1 (e3 k (by omega))
              simp only [Int.toNat_natCast] at *
              simp_all
          exact ⟨by rw [hf], hw.below⟩
      · skip
        replace h37 := of_decide_eq_false h37
        refine Wk.exit rfl ?_
        refine Kt.onSub (e' := []) Sub.nil ?_
        refine Wk.seq ?_
        refine Wk.regionQ ?_
        refine Lq.op (v := .bool true) rfl rfl rfl (OpQ.assign rfl rfl) ?_
        refine Lq.nil ?_
        refine Kt.onSub (e' := [(12, .bool true)]) (Sub.cons rfl Sub.nil) ?_
        refine Wk.ret (Kt.end1 rfl rfl fun w' hw => ?_)
        -- ret 4: .bool true
        exact ⟨by rw [hT.2 ⟨bne_false ‹_›, bne_false ‹_›, fun i hi => hall i (by omega)⟩], hw.below⟩
  · skip
    refine Lq.pass rfl rfl rfl ?_
    refine Lq.pass rfl rfl rfl ?_
    refine Lq.pass rfl rfl rfl ?_
    refine Lq.pass rfl rfl rfl ?_
    refine Lq.pass rfl rfl rfl ?_
    refine Lq.pass rfl rfl rfl ?_
    refine Lq.pass rfl rfl rfl ?_
    refine Lq.pass rfl rfl rfl ?_
    refine Lq.pass rfl rfl rfl ?_
    refine Lq.op (v := .bool true) rfl rfl rfl (OpQ.pickT rfl rfl rfl) ?_
    refine Lq.nil ?_
    refine Kt.onSub (e' := [(1, va), (3, vb), (4, .int .i64 x), (5, .int .i64 y), (6, .pointer (some ⟨p6, 0, none⟩)), (8, .pointer (some ⟨p8, 0, none⟩)), (33, .bool true)]) (Sub.cons rfl (Sub.cons rfl (Sub.cons rfl (Sub.cons rfl (Sub.cons rfl (Sub.cons rfl (Sub.cons rfl Sub.nil))))))) ?_
    refine Wk.condT rfl ?_
    refine Wk.seq ?_
    refine Wk.regionQ ?_
    refine Lq.op (v := .bool false) rfl rfl rfl (OpQ.assign rfl rfl) ?_
    refine Lq.nil ?_
    refine Kt.onSub (e' := [(12, .bool false)]) (Sub.cons rfl Sub.nil) ?_
    refine Wk.ret (Kt.end1 rfl rfl fun w' hw => ?_)
    -- ret 5: .bool false
    have hf : stillB a xs b ys x y = false := by
      cases hs : stillB a xs b ys x y with
      | false => rfl
      | true => obtain ⟨e1, e2, e3⟩ := hT.1 hs; simp_all
    exact ⟨by rw [hf], hw.below⟩

set_option maxHeartbeats 400000 in
/-- spec.l1Fits -/
theorem fits_ok (a b : St) (xs ys : List Int) (va vb : Value) (m : Nat) (w : World) (ha : a.Fine) (hb : b.Fine) (hva : Ints w va xs) (hvb : Ints w vb ys) (hA : a.Els xs) (hB : b.Els ys) (hm : xs.length = m + 1) (hm2 : ys.length = m + 1) (hsmall : m ≤ 1000000) :
    Calls Tryd.prog 82 [vS a, va, vS b, vb].toArray w fun en w' => en = .returned (.bool (stillAt a xs b ys m)) ∧ Below w.heap.size w w' := by
  refine fnStart (n := 97) (e := [(0, vS a), (1, va), (2, vS b), (3, vb)]) Tryd.func82 rfl rfl rfl rfl Ends.both ?_
  have hT := fits_true (a := a) (b := b) hm hm2
  refine Wk.seq ?_
  refine Wk.region ?_
  refine Ll.box (v := vS a) rfl rfl rfl rfl rfl fun p4 hp4 => ?_
  show Ll _ _ (Own _ _ [(p4, .cells #[.int .i64 a.n, str a.set, str a.rel] 26 (0, 0))]) _ _ ((4, .pointer (some ⟨p4, 0, none⟩)) :: _) _ _ _
  refine Ll.box (v := vS b) rfl rfl rfl rfl rfl fun p6 hp6 => ?_
  show Ll _ _ (Own _ _ [(p6, .cells #[.int .i64 b.n, str b.set, str b.rel] 26 (0, 0)), (p4, .cells #[.int .i64 a.n, str a.set, str a.rel] 26 (0, 0))]) _ _ ((6, .pointer (some ⟨p6, 0, none⟩)) :: _) _ _ _
  refine Ll.op (v := .bool false) rfl rfl rfl (OpQ.assign rfl rfl) ?_
  refine Ll.nil ?_
  refine Kt.onSub (e' := [(1, va), (3, vb), (4, .pointer (some ⟨p4, 0, none⟩)), (6, .pointer (some ⟨p6, 0, none⟩))]) (Sub.cons rfl (Sub.cons rfl (Sub.cons rfl (Sub.cons rfl Sub.nil)))) ?_
  refine Wk.seq ?_
  refine Wk.regionQ ?_
  refine Lq.op (v := va) rfl rfl rfl (OpQ.move rfl rfl) ?_
  refine Lq.op (v := .int .i64 (((m + 1) : Int))) rfl rfl rfl (OpQ.lenRow rfl Tryd.runUnderlying31 rfl ((ints_length _).trans hm) (fun w1 hw1 => Row.own hva hw1)) ?_
  refine Lq.op (v := .int .i64 ((m : Int))) rfl rfl rfl (OpQ.cast (by simp) (OpQ.sub rfl rfl rfl (by omega) (by omega))) ?_
  refine Lq.op (v := .int .i64 ((m : Int))) rfl rfl rfl (OpQ.assign rfl rfl) ?_
  refine Lq.nil ?_
  refine Kt.onSub (e' := [(1, va), (3, vb), (4, .pointer (some ⟨p4, 0, none⟩)), (6, .pointer (some ⟨p6, 0, none⟩)), (9, .int .i64 ((m : Int)))]) (Sub.cons rfl (Sub.cons rfl (Sub.cons rfl (Sub.cons rfl (Sub.cons rfl Sub.nil))))) ?_
  refine Wk.seq ?_
  refine Wk.seq ?_
  refine Wk.regionD Base.mixed (fun _ h => h.drawn) (by kernel_rfl) ?_
  refine Lq.op (v := vS a) rfl rfl rfl (OpQ.loadBox (cs := #[.int .i64 a.n, str a.set, str a.rel]) 1 rfl Tryd.isAgg26 rfl rfl Tryd.sizeOf26) ?_
  refine Lq.op (v := va) rfl rfl rfl (OpQ.move rfl rfl) ?_
  refine Lq.op (v := .int .i64 ((m : Int))) rfl rfl rfl (OpQ.move rfl rfl) ?_
  refine Lq.op (v := .pointer (some (sAt va ((m : Int))))) rfl rfl rfl (OpQ.atRow rfl Tryd.runUnderlying31 Tryd.sizeOf3 rfl rfl (by omega) (by rw [ints_length]; omega) (fun w1 hw1 => Row.own hva hw1)) ?_
  refine Lq.op (v := .int .i64 (xs.getD (((m : Int)).toNat) 0)) rfl rfl rfl (OpQ.load1 rfl Tryd.isAgg3 rfl (fun w1 hw1 => Ints.cell (Row.own hva hw1) (by omega) (by omega))) ?_
  refine Lq.op (v := .bool (a.inSet (xs.getD (((m : Int)).toNat) 0))) rfl rfl rfl (OpQ.call rfl Tryd.call117 rfl Own.stable (fun w1 hw1 => l1Set_ok a (xs.getD (((m : Int)).toNat) 0) w1 ha (by first | assumption | exact St.Els.at (by assumption) (by omega) (by omega)))) ?_
  refine Lq.op (v := vS b) rfl rfl rfl (OpQ.loadBox (cs := #[.int .i64 b.n, str b.set, str b.rel]) 0 rfl Tryd.isAgg26 rfl rfl Tryd.sizeOf26) ?_
  refine Lq.op (v := vb) rfl rfl rfl (OpQ.move rfl rfl) ?_
  refine Lq.op (v := .int .i64 ((m : Int))) rfl rfl rfl (OpQ.move rfl rfl) ?_
  refine Lq.op (v := .pointer (some (sAt vb ((m : Int))))) rfl rfl rfl (OpQ.atRow rfl Tryd.runUnderlying31 Tryd.sizeOf3 rfl rfl (by omega) (by rw [ints_length]; omega) (fun w1 hw1 => Row.own hvb hw1)) ?_
  refine Lq.op (v := .int .i64 (ys.getD (((m : Int)).toNat) 0)) rfl rfl rfl (OpQ.load1 rfl Tryd.isAgg3 rfl (fun w1 hw1 => Ints.cell (Row.own hvb hw1) (by omega) (by omega))) ?_
  refine Lq.op (v := .bool (b.inSet (ys.getD (((m : Int)).toNat) 0))) rfl rfl rfl (OpQ.call rfl Tryd.call117 rfl Own.stable (fun w1 hw1 => l1Set_ok b (ys.getD (((m : Int)).toNat) 0) w1 hb (by first | assumption | exact St.Els.at (by assumption) (by omega) (by omega)))) ?_
  refine Lq.op (v := .bool ((a.inSet (xs.getD (((m : Int)).toNat) 0)) != (b.inSet (ys.getD (((m : Int)).toNat) 0)))) rfl rfl rfl (OpQ.bne rfl Tryd.runUnderlying4 rfl rfl) ?_
  refine Lq.nil ?_
  refine Kt.onSub (e' := [(1, va), (3, vb), (4, .pointer (some ⟨p4, 0, none⟩)), (6, .pointer (some ⟨p6, 0, none⟩)), (9, .int .i64 ((m : Int))), (26, .bool ((a.inSet (xs.getD (((m : Int)).toNat) 0)) != (b.inSet (ys.getD (((m : Int)).toNat) 0))))]) (Sub.cons rfl (Sub.cons rfl (Sub.cons rfl (Sub.cons rfl (Sub.cons rfl (Sub.cons rfl Sub.nil)))))) ?_
  refine Wk.cond (b := (a.inSet (xs.getD (((m : Int)).toNat) 0)) != (b.inSet (ys.getD (((m : Int)).toNat) 0))) rfl (fun h26 => ?_) (fun h26 => ?_)
  · skip
    refine Wk.seq ?_
    refine Wk.regionQ ?_
    refine Lq.op (v := .bool false) rfl rfl rfl (OpQ.assign rfl rfl) ?_
    refine Lq.nil ?_
    refine Kt.onSub (e' := [(8, .bool false)]) (Sub.cons rfl Sub.nil) ?_
    refine Wk.ret (Kt.end1 rfl rfl fun w' hw => ?_)
    -- ret 0: .bool false
    have hf : stillAt a xs b ys m = false := by
      cases hs : stillAt a xs b ys m with
      | false => rfl
      | true =>
        obtain ⟨e1, e3⟩ := hT.1 hs
        simp_all
    exact ⟨ret_b hf.symm, hw.below⟩
  · skip
    refine Wk.skip ?_
    refine Kt.onSub (e' := [(1, va), (3, vb), (4, .pointer (some ⟨p4, 0, none⟩)), (6, .pointer (some ⟨p6, 0, none⟩)), (9, .int .i64 ((m : Int)))]) (Sub.cons rfl (Sub.cons rfl (Sub.cons rfl (Sub.cons rfl (Sub.cons rfl Sub.nil))))) ?_
    refine Wk.seq ?_
    refine Wk.seq ?_
    refine Wk.regionQ ?_
    refine Lq.op (v := .int .i64 0) rfl rfl rfl (OpQ.assign rfl rfl) ?_
    refine Lq.nil ?_
    refine Kt.onSub (e' := [(1, va), (3, vb), (4, .pointer (some ⟨p4, 0, none⟩)), (6, .pointer (some ⟨p6, 0, none⟩)), (9, .int .i64 ((m : Int))), (10, .int .i64 0)]) (Sub.cons rfl (Sub.cons rfl (Sub.cons rfl (Sub.cons rfl (Sub.cons rfl (Sub.cons rfl Sub.nil)))))) ?_
    refine Wk.block ?_
    refine Wk.loop (σ := Nat) (fun k => k ≤ m + 1 ∧ ∀ i : Nat, i < k → pairOk a b (xs.getD m 0) (ys.getD m 0) (xs.getD i 0) (ys.getD i 0) = true) (fun k => [(1, va), (3, vb), (4, .pointer (some ⟨p4, 0, none⟩)), (6, .pointer (some ⟨p6, 0, none⟩)), (9, .int .i64 ((m : Int))), (10, .int .i64 ((k : Int)))]) (fun k => Own w.heap.size w [(p6, .cells #[.int .i64 b.n, str b.set, str b.rel] 26 (0, 0)), (p4, .cells #[.int .i64 a.n, str a.set, str a.rel] 26 (0, 0))]) (fun k => m + 1 - k) (0) ⟨by omega, fun i hi => absurd hi (by omega)⟩ (Sub.cons rfl (Sub.cons rfl (Sub.cons rfl (Sub.cons rfl (Sub.cons rfl (Sub.cons rfl Sub.nil)))))) (fun _ h => h) ?_
    rintro k ⟨hk, hall⟩
    refine Wk.seq ?_
    refine Wk.seq ?_
    refine Wk.regionQ ?_
    refine Lq.op (v := .int .i64 ((k : Int))) rfl rfl rfl (OpQ.move rfl rfl) ?_
    refine Lq.op (v := .int .i64 ((m : Int))) rfl rfl rfl (OpQ.move rfl rfl) ?_
    refine Lq.op (v := .bool (decide (((k : Int)) ≤ ((m : Int))))) rfl rfl rfl (OpQ.leq rfl rfl rfl) ?_
    refine Lq.nil ?_
    refine Kt.onSub (e' := [(1, va), (3, vb), (4, .pointer (some ⟨p4, 0, none⟩)), (6, .pointer (some ⟨p6, 0, none⟩)), (9, .int .i64 ((m : Int))), (10, .int .i64 ((k : Int))), (29, .bool (decide (((k : Int)) ≤ ((m : Int)))))]) (Sub.cons rfl (Sub.cons rfl (Sub.cons rfl (Sub.cons rfl (Sub.cons rfl (Sub.cons rfl (Sub.cons rfl Sub.nil))))))) ?_
    refine Wk.cond (b := decide (((k : Int)) ≤ ((m : Int)))) rfl (fun h29 => ?_) (fun h29 => ?_)
    · skip
      replace h29 := of_decide_eq_true h29
      refine Wk.skip ?_
      refine Kt.onSub (e' := [(1, va), (3, vb), (4, .pointer (some ⟨p4, 0, none⟩)), (6, .pointer (some ⟨p6, 0, none⟩)), (9, .int .i64 ((m : Int))), (10, .int .i64 ((k : Int)))]) (Sub.cons rfl (Sub.cons rfl (Sub.cons rfl (Sub.cons rfl (Sub.cons rfl (Sub.cons rfl Sub.nil)))))) ?_
      refine Wk.seq ?_
      refine Wk.block ?_
      refine Wk.seq ?_
      refine Wk.regionD Base.mixed (fun _ h => h.drawn) (by kernel_rfl) ?_
      refine Lq.op (v := va) rfl rfl rfl (OpQ.move rfl rfl) ?_
      refine Lq.op (v := .int .i64 ((k : Int))) rfl rfl rfl (OpQ.move rfl rfl) ?_
      refine Lq.op (v := .pointer (some (sAt va ((k : Int))))) rfl rfl rfl (OpQ.atRow rfl Tryd.runUnderlying31 Tryd.sizeOf3 rfl rfl (by omega) (by rw [ints_length]; omega) (fun w1 hw1 => Row.own hva hw1)) ?_
      refine Lq.op (v := .int .i64 (xs.getD (((k : Int)).toNat) 0)) rfl rfl rfl (OpQ.load1 rfl Tryd.isAgg3 rfl (fun w1 hw1 => Ints.cell (Row.own hva hw1) (by omega) (by omega))) ?_
      refine Lq.op (v := va) rfl rfl rfl (OpQ.move rfl rfl) ?_
      refine Lq.op (v := .int .i64 ((m : Int))) rfl rfl rfl (OpQ.move rfl rfl) ?_
      refine Lq.op (v := .pointer (some (sAt va ((m : Int))))) rfl rfl rfl (OpQ.atRow rfl Tryd.runUnderlying31 Tryd.sizeOf3 rfl rfl (by omega) (by rw [ints_length]; omega) (fun w1 hw1 => Row.own hva hw1)) ?_
      refine Lq.op (v := .int .i64 (xs.getD (((m : Int)).toNat) 0)) rfl rfl rfl (OpQ.load1 rfl Tryd.isAgg3 rfl (fun w1 hw1 => Ints.cell (Row.own hva hw1) (by omega) (by omega))) ?_
      refine Lq.op (v := .bool (decide ((xs.getD (((k : Int)).toNat) 0) = (xs.getD (((m : Int)).toNat) 0)))) rfl rfl rfl (OpQ.eql rfl rfl rfl) ?_
      refine Lq.op (v := vb) rfl rfl rfl (OpQ.move rfl rfl) ?_
      refine Lq.op (v := .int .i64 ((k : Int))) rfl rfl rfl (OpQ.move rfl rfl) ?_
      refine Lq.op (v := .pointer (some (sAt vb ((k : Int))))) rfl rfl rfl (OpQ.atRow rfl Tryd.runUnderlying31 Tryd.sizeOf3 rfl rfl (by omega) (by rw [ints_length]; omega) (fun w1 hw1 => Row.own hvb hw1)) ?_
      refine Lq.op (v := .int .i64 (ys.getD (((k : Int)).toNat) 0)) rfl rfl rfl (OpQ.load1 rfl Tryd.isAgg3 rfl (fun w1 hw1 => Ints.cell (Row.own hvb hw1) (by omega) (by omega))) ?_
      refine Lq.op (v := vb) rfl rfl rfl (OpQ.move rfl rfl) ?_
      refine Lq.op (v := .int .i64 ((m : Int))) rfl rfl rfl (OpQ.move rfl rfl) ?_
      refine Lq.op (v := .pointer (some (sAt vb ((m : Int))))) rfl rfl rfl (OpQ.atRow rfl Tryd.runUnderlying31 Tryd.sizeOf3 rfl rfl (by omega) (by rw [ints_length]; omega) (fun w1 hw1 => Row.own hvb hw1)) ?_
      refine Lq.op (v := .int .i64 (ys.getD (((m : Int)).toNat) 0)) rfl rfl rfl (OpQ.load1 rfl Tryd.isAgg3 rfl (fun w1 hw1 => Ints.cell (Row.own hvb hw1) (by omega) (by omega))) ?_
      refine Lq.op (v := .bool (decide ((ys.getD (((k : Int)).toNat) 0) = (ys.getD (((m : Int)).toNat) 0)))) rfl rfl rfl (OpQ.eql rfl rfl rfl) ?_
      refine Lq.op (v := .bool ((decide ((xs.getD (((k : Int)).toNat) 0) = (xs.getD (((m : Int)).toNat) 0))) != (decide ((ys.getD (((k : Int)).toNat) 0) = (ys.getD (((m : Int)).toNat) 0))))) rfl rfl rfl (OpQ.bne rfl Tryd.runUnderlying4 rfl rfl) ?_
      refine Lq.op (v := .bool ((decide ((xs.getD (((k : Int)).toNat) 0) = (xs.getD (((m : Int)).toNat) 0))) != (decide ((ys.getD (((k : Int)).toNat) 0) = (ys.getD (((m : Int)).toNat) 0))))) rfl rfl rfl (OpQ.move rfl rfl) ?_
      refine Lq.bool fun b51 hg51 => ?_
      cases b51
      · skip
        refine Lq.op (v := vS a) rfl rfl rfl (OpQ.loadBox (cs := #[.int .i64 a.n, str a.set, str a.rel]) 1 rfl Tryd.isAgg26 rfl rfl Tryd.sizeOf26) ?_
        refine Lq.op (v := va) rfl rfl rfl (OpQ.move rfl rfl) ?_
        refine Lq.op (v := .int .i64 ((k : Int))) rfl rfl rfl (OpQ.move rfl rfl) ?_
        refine Lq.op (v := .pointer (some (sAt va ((k : Int))))) rfl rfl rfl (OpQ.atRow rfl Tryd.runUnderlying31 Tryd.sizeOf3 rfl rfl (by omega) (by rw [ints_length]; omega) (fun w1 hw1 => Row.own hva hw1)) ?_
        refine Lq.op (v := .int .i64 (xs.getD (((k : Int)).toNat) 0)) rfl rfl rfl (OpQ.load1 rfl Tryd.isAgg3 rfl (fun w1 hw1 => Ints.cell (Row.own hva hw1) (by omega) (by omega))) ?_
        refine Lq.op (v := va) rfl rfl rfl (OpQ.move rfl rfl) ?_
        refine Lq.op (v := .int .i64 ((m : Int))) rfl rfl rfl (OpQ.move rfl rfl) ?_
        refine Lq.op (v := .pointer (some (sAt va ((m : Int))))) rfl rfl rfl (OpQ.atRow rfl Tryd.runUnderlying31 Tryd.sizeOf3 rfl rfl (by omega) (by rw [ints_length]; omega) (fun w1 hw1 => Row.own hva hw1)) ?_
        refine Lq.op (v := .int .i64 (xs.getD (((m : Int)).toNat) 0)) rfl rfl rfl (OpQ.load1 rfl Tryd.isAgg3 rfl (fun w1 hw1 => Ints.cell (Row.own hva hw1) (by omega) (by omega))) ?_
        refine Lq.op (v := .bool (a.inRel (xs.getD (((k : Int)).toNat) 0) (xs.getD (((m : Int)).toNat) 0))) rfl rfl rfl (OpQ.call rfl Tryd.call118 rfl Own.stable (fun w1 hw1 => l1Rel_ok a (xs.getD (((k : Int)).toNat) 0) (xs.getD (((m : Int)).toNat) 0) w1 ha (by first | assumption | exact St.Els.at (by assumption) (by omega) (by omega)) (by first | assumption | exact St.Els.at (by assumption) (by omega) (by omega)))) ?_
        refine Lq.op (v := vS b) rfl rfl rfl (OpQ.loadBox (cs := #[.int .i64 b.n, str b.set, str b.rel]) 0 rfl Tryd.isAgg26 rfl rfl Tryd.sizeOf26) ?_
        refine Lq.op (v := vb) rfl rfl rfl (OpQ.move rfl rfl) ?_
        refine Lq.op (v := .int .i64 ((k : Int))) rfl rfl rfl (OpQ.move rfl rfl) ?_
        refine Lq.op (v := .pointer (some (sAt vb ((k : Int))))) rfl rfl rfl (OpQ.atRow rfl Tryd.runUnderlying31 Tryd.sizeOf3 rfl rfl (by omega) (by rw [ints_length]; omega) (fun w1 hw1 => Row.own hvb hw1)) ?_
        refine Lq.op (v := .int .i64 (ys.getD (((k : Int)).toNat) 0)) rfl rfl rfl (OpQ.load1 rfl Tryd.isAgg3 rfl (fun w1 hw1 => Ints.cell (Row.own hvb hw1) (by omega) (by omega))) ?_
        refine Lq.op (v := vb) rfl rfl rfl (OpQ.move rfl rfl) ?_
        refine Lq.op (v := .int .i64 ((m : Int))) rfl rfl rfl (OpQ.move rfl rfl) ?_
        refine Lq.op (v := .pointer (some (sAt vb ((m : Int))))) rfl rfl rfl (OpQ.atRow rfl Tryd.runUnderlying31 Tryd.sizeOf3 rfl rfl (by omega) (by rw [ints_length]; omega) (fun w1 hw1 => Row.own hvb hw1)) ?_
        refine Lq.op (v := .int .i64 (ys.getD (((m : Int)).toNat) 0)) rfl rfl rfl (OpQ.load1 rfl Tryd.isAgg3 rfl (fun w1 hw1 => Ints.cell (Row.own hvb hw1) (by omega) (by omega))) ?_
        refine Lq.op (v := .bool (b.inRel (ys.getD (((k : Int)).toNat) 0) (ys.getD (((m : Int)).toNat) 0))) rfl rfl rfl (OpQ.call rfl Tryd.call118 rfl Own.stable (fun w1 hw1 => l1Rel_ok b (ys.getD (((k : Int)).toNat) 0) (ys.getD (((m : Int)).toNat) 0) w1 hb (by first | assumption | exact St.Els.at (by assumption) (by omega) (by omega)) (by first | assumption | exact St.Els.at (by assumption) (by omega) (by omega)))) ?_
        refine Lq.op (v := .bool ((a.inRel (xs.getD (((k : Int)).toNat) 0) (xs.getD (((m : Int)).toNat) 0)) != (b.inRel (ys.getD (((k : Int)).toNat) 0) (ys.getD (((m : Int)).toNat) 0)))) rfl rfl rfl (OpQ.bne rfl Tryd.runUnderlying4 rfl rfl) ?_
        refine Lq.op (v := .bool ((a.inRel (xs.getD (((k : Int)).toNat) 0) (xs.getD (((m : Int)).toNat) 0)) != (b.inRel (ys.getD (((k : Int)).toNat) 0) (ys.getD (((m : Int)).toNat) 0)))) rfl rfl rfl (OpQ.pickF rfl rfl rfl) ?_
        refine Lq.op (v := .bool ((a.inRel (xs.getD (((k : Int)).toNat) 0) (xs.getD (((m : Int)).toNat) 0)) != (b.inRel (ys.getD (((k : Int)).toNat) 0) (ys.getD (((m : Int)).toNat) 0)))) rfl rfl rfl (OpQ.move rfl rfl) ?_
        refine Lq.bool fun b74 hg74 => ?_
        cases b74
        · skip
          refine Lq.op (v := vS a) rfl rfl rfl (OpQ.loadBox (cs := #[.int .i64 a.n, str a.set, str a.rel]) 1 rfl Tryd.isAgg26 rfl rfl Tryd.sizeOf26) ?_
          refine Lq.op (v := va) rfl rfl rfl (OpQ.move rfl rfl) ?_
          refine Lq.op (v := .int .i64 ((m : Int))) rfl rfl rfl (OpQ.move rfl rfl) ?_
          refine Lq.op (v := .pointer (some (sAt va ((m : Int))))) rfl rfl rfl (OpQ.atRow rfl Tryd.runUnderlying31 Tryd.sizeOf3 rfl rfl (by omega) (by rw [ints_length]; omega) (fun w1 hw1 => Row.own hva hw1)) ?_
          refine Lq.op (v := .int .i64 (xs.getD (((m : Int)).toNat) 0)) rfl rfl rfl (OpQ.load1 rfl Tryd.isAgg3 rfl (fun w1 hw1 => Ints.cell (Row.own hva hw1) (by omega) (by omega))) ?_
          refine Lq.op (v := va) rfl rfl rfl (OpQ.move rfl rfl) ?_
          refine Lq.op (v := .int .i64 ((k : Int))) rfl rfl rfl (OpQ.move rfl rfl) ?_
          refine Lq.op (v := .pointer (some (sAt va ((k : Int))))) rfl rfl rfl (OpQ.atRow rfl Tryd.runUnderlying31 Tryd.sizeOf3 rfl rfl (by omega) (by rw [ints_length]; omega) (fun w1 hw1 => Row.own hva hw1)) ?_
          refine Lq.op (v := .int .i64 (xs.getD (((k : Int)).toNat) 0)) rfl rfl rfl (OpQ.load1 rfl Tryd.isAgg3 rfl (fun w1 hw1 => Ints.cell (Row.own hva hw1) (by omega) (by omega))) ?_
          refine Lq.op (v := .bool (a.inRel (xs.getD (((m : Int)).toNat) 0) (xs.getD (((k : Int)).toNat) 0))) rfl rfl rfl (OpQ.call rfl Tryd.call118 rfl Own.stable (fun w1 hw1 => l1Rel_ok a (xs.getD (((m : Int)).toNat) 0) (xs.getD (((k : Int)).toNat) 0) w1 ha (by first | assumption | exact St.Els.at (by assumption) (by omega) (by omega)) (by first | assumption | exact St.Els.at (by assumption) (by omega) (by omega)))) ?_
          refine Lq.op (v := vS b) rfl rfl rfl (OpQ.loadBox (cs := #[.int .i64 b.n, str b.set, str b.rel]) 0 rfl Tryd.isAgg26 rfl rfl Tryd.sizeOf26) ?_
          refine Lq.op (v := vb) rfl rfl rfl (OpQ.move rfl rfl) ?_
          refine Lq.op (v := .int .i64 ((m : Int))) rfl rfl rfl (OpQ.move rfl rfl) ?_
          refine Lq.op (v := .pointer (some (sAt vb ((m : Int))))) rfl rfl rfl (OpQ.atRow rfl Tryd.runUnderlying31 Tryd.sizeOf3 rfl rfl (by omega) (by rw [ints_length]; omega) (fun w1 hw1 => Row.own hvb hw1)) ?_
          refine Lq.op (v := .int .i64 (ys.getD (((m : Int)).toNat) 0)) rfl rfl rfl (OpQ.load1 rfl Tryd.isAgg3 rfl (fun w1 hw1 => Ints.cell (Row.own hvb hw1) (by omega) (by omega))) ?_
          refine Lq.op (v := vb) rfl rfl rfl (OpQ.move rfl rfl) ?_
          refine Lq.op (v := .int .i64 ((k : Int))) rfl rfl rfl (OpQ.move rfl rfl) ?_
          refine Lq.op (v := .pointer (some (sAt vb ((k : Int))))) rfl rfl rfl (OpQ.atRow rfl Tryd.runUnderlying31 Tryd.sizeOf3 rfl rfl (by omega) (by rw [ints_length]; omega) (fun w1 hw1 => Row.own hvb hw1)) ?_
          refine Lq.op (v := .int .i64 (ys.getD (((k : Int)).toNat) 0)) rfl rfl rfl (OpQ.load1 rfl Tryd.isAgg3 rfl (fun w1 hw1 => Ints.cell (Row.own hvb hw1) (by omega) (by omega))) ?_
          refine Lq.op (v := .bool (b.inRel (ys.getD (((m : Int)).toNat) 0) (ys.getD (((k : Int)).toNat) 0))) rfl rfl rfl (OpQ.call rfl Tryd.call118 rfl Own.stable (fun w1 hw1 => l1Rel_ok b (ys.getD (((m : Int)).toNat) 0) (ys.getD (((k : Int)).toNat) 0) w1 hb (by first | assumption | exact St.Els.at (by assumption) (by omega) (by omega)) (by first | assumption | exact St.Els.at (by assumption) (by omega) (by omega)))) ?_
          refine Lq.op (v := .bool ((a.inRel (xs.getD (((m : Int)).toNat) 0) (xs.getD (((k : Int)).toNat) 0)) != (b.inRel (ys.getD (((m : Int)).toNat) 0) (ys.getD (((k : Int)).toNat) 0)))) rfl rfl rfl (OpQ.bne rfl Tryd.runUnderlying4 rfl rfl) ?_
          refine Lq.op (v := .bool ((a.inRel (xs.getD (((m : Int)).toNat) 0) (xs.getD (((k : Int)).toNat) 0)) != (b.inRel (ys.getD (((m : Int)).toNat) 0) (ys.getD (((k : Int)).toNat) 0)))) rfl rfl rfl (OpQ.pickF rfl rfl rfl) ?_
          refine Lq.nil ?_
          refine Kt.onSub (e' := [(1, va), (3, vb), (4, .pointer (some ⟨p4, 0, none⟩)), (6, .pointer (some ⟨p6, 0, none⟩)), (9, .int .i64 ((m : Int))), (10, .int .i64 ((k : Int))), (96, .bool ((a.inRel (xs.getD (((m : Int)).toNat) 0) (xs.getD (((k : Int)).toNat) 0)) != (b.inRel (ys.getD (((m : Int)).toNat) 0) (ys.getD (((k : Int)).toNat) 0))))]) (Sub.cons rfl (Sub.cons rfl (Sub.cons rfl (Sub.cons rfl (Sub.cons rfl (Sub.cons rfl (Sub.cons rfl Sub.nil))))))) ?_
          refine Wk.cond (b := (a.inRel (xs.getD (((m : Int)).toNat) 0) (xs.getD (((k : Int)).toNat) 0)) != (b.inRel (ys.getD (((m : Int)).toNat) 0) (ys.getD (((k : Int)).toNat) 0))) rfl (fun h96 => ?_) (fun h96 => ?_)
          · skip
            refine Wk.seq ?_
            refine Wk.regionQ ?_
            refine Lq.op (v := .bool false) rfl rfl rfl (OpQ.assign rfl rfl) ?_
            refine Lq.nil ?_
            refine Kt.onSub (e' := [(8, .bool false)]) (Sub.cons rfl Sub.nil) ?_
            refine Wk.ret (Kt.end1 rfl rfl fun w' hw => ?_)
            -- ret 1: .bool false
            have hf : stillAt a xs b ys m = false := by
              cases hs : stillAt a xs b ys m with
              | false => rfl
              | true =>
                obtain ⟨e1, e3⟩ := hT.1 hs
                obtain ⟨e4, e5, e6⟩ := pairOk_true.1 (e3 k (by omega))
                simp only [Int.toNat_natCast] at *
                simp_all
            exact ⟨ret_b hf.symm, hw.below⟩
          · skip
            refine Wk.skip ?_
            refine Kt.onSub (e' := [(1, va), (3, vb), (4, .pointer (some ⟨p4, 0, none⟩)), (6, .pointer (some ⟨p6, 0, none⟩)), (9, .int .i64 ((m : Int))), (10, .int .i64 ((k : Int)))]) (Sub.cons rfl (Sub.cons rfl (Sub.cons rfl (Sub.cons rfl (Sub.cons rfl (Sub.cons rfl Sub.nil)))))) ?_
            refine Wk.regionQ ?_
            refine Lq.op (v := .int .i64 ((k : Int))) rfl rfl rfl (OpQ.move rfl rfl) ?_
            refine Lq.op (v := .int .i64 (((k : Int)) + (1 : Int))) rfl rfl rfl (OpQ.add rfl rfl rfl (by omega) (by omega)) ?_
            refine Lq.op (v := .int .i64 (((k : Int)) + (1 : Int))) rfl rfl rfl (OpQ.assign rfl rfl) ?_
            refine Lq.nil ?_
            refine Kt.again (k + 1) ⟨by omega, fun i hi => (Nat.lt_succ_iff_lt_or_eq.1 hi).elim (hall i) (fun e => by subst e; exact pairOk_true.2 ⟨by simpa using hg51, by simpa using hg74, by simpa using h96⟩)⟩ (by omega) (Sub.cons rfl (Sub.cons rfl (Sub.cons rfl (Sub.cons rfl (Sub.cons rfl (Sub.cons rfl Sub.nil)))))) (fun _ h => h)
        · skip
          refine Lq.pass rfl rfl rfl ?_
          refine Lq.pass rfl rfl rfl ?_
          refine Lq.pass rfl rfl rfl ?_
          refine Lq.pass rfl rfl rfl ?_
          refine Lq.pass rfl rfl rfl ?_
          refine Lq.pass rfl rfl rfl ?_
          refine Lq.pass rfl rfl rfl ?_
          refine Lq.pass rfl rfl rfl ?_
          refine Lq.pass rfl rfl rfl ?_
          refine Lq.pass rfl rfl rfl ?_
          refine Lq.pass rfl rfl rfl ?_
          refine Lq.pass rfl rfl rfl ?_
          refine Lq.pass rfl rfl rfl ?_
          refine Lq.pass rfl rfl rfl ?_
          refine Lq.pass rfl rfl rfl ?_
          refine Lq.pass rfl rfl rfl ?_
          refine Lq.pass rfl rfl rfl ?_
          refine Lq.pass rfl rfl rfl ?_
          refine Lq.pass rfl rfl rfl ?_
          refine Lq.pass rfl rfl rfl ?_
          refine Lq.pass rfl rfl rfl ?_
          refine Lq.op (v := .bool true) rfl rfl rfl (OpQ.pickT rfl rfl rfl) ?_
          refine Lq.nil ?_
          refine Kt.onSub (e' := [(1, va), (3, vb), (4, .pointer (some ⟨p4, 0, none⟩)), (6, .pointer (some ⟨p6, 0, none⟩)), (9, .int .i64 ((m : Int))), (10, .int .i64 ((k : Int))), (96, .bool true)]) (Sub.cons rfl (Sub.cons rfl (Sub.cons rfl (Sub.cons rfl (Sub.cons rfl (Sub.cons rfl (Sub.cons rfl Sub.nil))))))) ?_
          refine Wk.condT rfl ?_
          refine Wk.seq ?_
          refine Wk.regionQ ?_
          refine Lq.op (v := .bool false) rfl rfl rfl (OpQ.assign rfl rfl) ?_
          refine Lq.nil ?_
          refine Kt.onSub (e' := [(8, .bool false)]) (Sub.cons rfl Sub.nil) ?_
          refine Wk.ret (Kt.end1 rfl rfl fun w' hw => ?_)
          -- ret 2: .bool false
          have hf : stillAt a xs b ys m = false := by
            cases hs : stillAt a xs b ys m with
            | false => rfl
            | true =>
              obtain ⟨e1, e3⟩ := hT.1 hs
              obtain ⟨e4, e5, e6⟩ := pairOk_true.1 (e3 k (by omega))
              simp only [Int.toNat_natCast] at *
              simp_all
          exact ⟨ret_b hf.symm, hw.below⟩
      · skip
        refine Lq.pass rfl rfl rfl ?_
        refine Lq.pass rfl rfl rfl ?_
        refine Lq.pass rfl rfl rfl ?_
        refine Lq.pass rfl rfl rfl ?_
        refine Lq.pass rfl rfl rfl ?_
        refine Lq.pass rfl rfl rfl ?_
        refine Lq.pass rfl rfl rfl ?_
        refine Lq.pass rfl rfl rfl ?_
        refine Lq.pass rfl rfl rfl ?_
        refine Lq.pass rfl rfl rfl ?_
        refine Lq.pass rfl rfl rfl ?_
        refine Lq.pass rfl rfl rfl ?_
        refine Lq.pass rfl rfl rfl ?_
        refine Lq.pass rfl rfl rfl ?_
        refine Lq.pass rfl rfl rfl ?_
        refine Lq.pass rfl rfl rfl ?_
        refine Lq.pass rfl rfl rfl ?_
        refine Lq.pass rfl rfl rfl ?_
        refine Lq.pass rfl rfl rfl ?_
        refine Lq.pass rfl rfl rfl ?_
        refine Lq.pass rfl rfl rfl ?_
        refine Lq.op (v := .bool true) rfl rfl rfl (OpQ.pickT rfl rfl rfl) ?_
        refine Lq.op (v := .bool true) rfl rfl rfl (OpQ.move rfl rfl) ?_
        refine Lq.pass rfl rfl rfl ?_
        refine Lq.pass rfl rfl rfl ?_
        refine Lq.pass rfl rfl rfl ?_
        refine Lq.pass rfl rfl rfl ?_
        refine Lq.pass rfl rfl rfl ?_
        refine Lq.pass rfl rfl rfl ?_
        refine Lq.pass rfl rfl rfl ?_
        refine Lq.pass rfl rfl rfl ?_
        refine Lq.pass rfl rfl rfl ?_
        refine Lq.pass rfl rfl rfl ?_
        refine Lq.pass rfl rfl rfl ?_
        refine Lq.pass rfl rfl rfl ?_
        refine Lq.pass rfl rfl rfl ?_
        refine Lq.pass rfl rfl rfl ?_
        refine Lq.pass rfl rfl rfl ?_
        refine Lq.pass rfl rfl rfl ?_
        refine Lq.pass rfl rfl rfl ?_
        refine Lq.pass rfl rfl rfl ?_
        refine Lq.pass rfl rfl rfl ?_
        refine Lq.pass rfl rfl rfl ?_
        refine Lq.pass rfl rfl rfl ?_
        refine Lq.op (v := .bool true) rfl rfl rfl (OpQ.pickT rfl rfl rfl) ?_
        refine Lq.nil ?_
        refine Kt.onSub (e' := [(1, va), (3, vb), (4, .pointer (some ⟨p4, 0, none⟩)), (6, .pointer (some ⟨p6, 0, none⟩)), (9, .int .i64 ((m : Int))), (10, .int .i64 ((k : Int))), (96, .bool true)]) (Sub.cons rfl (Sub.cons rfl (Sub.cons rfl (Sub.cons rfl (Sub.cons rfl (Sub.cons rfl (Sub.cons rfl Sub.nil))))))) ?_
        refine Wk.condT rfl ?_
        refine Wk.seq ?_
        refine Wk.regionQ ?_
        refine Lq.op (v := .bool false) rfl rfl rfl (OpQ.assign rfl rfl) ?_
        refine Lq.nil ?_
        refine Kt.onSub (e' := [(8, .bool false)]) (Sub.cons rfl Sub.nil) ?_
        refine Wk.ret (Kt.end1 rfl rfl fun w' hw => ?_)
        -- ret 3: .bool false
        have hf : stillAt a xs b ys m = false := by
          cases hs : stillAt a xs b ys m with
          | false => rfl
          | true =>
            obtain ⟨e1, e3⟩ := hT.1 hs
            obtain ⟨e4, e5, e6⟩ := pairOk_true.1 (e3 k (by omega))
            simp only [Int.toNat_natCast] at *
            simp_all
        exact ⟨ret_b hf.symm, hw.below⟩
    · skip
      replace h29 := of_decide_eq_false h29
      refine Wk.exit rfl ?_
      refine Kt.onSub (e' := []) Sub.nil ?_
      refine Wk.seq ?_
      refine Wk.regionQ ?_
      refine Lq.op (v := .bool true) rfl rfl rfl (OpQ.assign rfl rfl) ?_
      refine Lq.nil ?_
      refine Kt.onSub (e' := [(8, .bool true)]) (Sub.cons rfl Sub.nil) ?_
      refine Wk.ret (Kt.end1 rfl rfl fun w' hw => ?_)
      -- ret 4: .bool true
      exact ⟨ret_b (hT.2 ⟨bne_false ‹_›, fun i hi => hall i (by omega)⟩).symm, hw.below⟩

set_option maxHeartbeats 400000 in
/-- spec.l4Partial -/
theorem l4Partial_ok (a b : St) (xs ys : List Int) (va vb : Value) (w : World) (ha : a.Fine) (hb : b.Fine) (hva : Ints w va xs) (hvb : Ints w vb ys) (hA : a.Els xs) (hB : b.Els ys) (hlen : xs.length = ys.length) (hsmall : xs.length ≤ 1000000) :
    Calls Tryd.prog 77 [vS a, va, vS b, vb].toArray w fun en w' => en = .returned (.bool (sameB a xs b ys)) ∧ Below w.heap.size w w' := by
  refine fnStart (n := 26) (e := [(0, vS a), (1, va), (2, vS b), (3, vb)]) Tryd.func77 rfl rfl rfl rfl Ends.both ?_
  refine Wk.seq ?_
  refine Wk.region ?_
  refine Ll.box (v := vS a) rfl rfl rfl rfl rfl fun p4 hp4 => ?_
  show Ll _ _ (Own _ _ [(p4, .cells #[.int .i64 a.n, str a.set, str a.rel] 26 (0, 0))]) _ _ ((4, .pointer (some ⟨p4, 0, none⟩)) :: _) _ _ _
  refine Ll.box (v := vS b) rfl rfl rfl rfl rfl fun p6 hp6 => ?_
  show Ll _ _ (Own _ _ [(p6, .cells #[.int .i64 b.n, str b.set, str b.rel] 26 (0, 0)), (p4, .cells #[.int .i64 a.n, str a.set, str a.rel] 26 (0, 0))]) _ _ ((6, .pointer (some ⟨p6, 0, none⟩)) :: _) _ _ _
  refine Ll.op (v := .bool false) rfl rfl rfl (OpQ.assign rfl rfl) ?_
  refine Ll.nil ?_
  refine Kt.onSub (e' := [(1, va), (3, vb), (4, .pointer (some ⟨p4, 0, none⟩)), (6, .pointer (some ⟨p6, 0, none⟩))]) (Sub.cons rfl (Sub.cons rfl (Sub.cons rfl (Sub.cons rfl Sub.nil)))) ?_
  refine Wk.seq ?_
  refine Wk.seq ?_
  refine Wk.regionQ ?_
  refine Lq.op (v := .int .i64 1) rfl rfl rfl (OpQ.assign rfl rfl) ?_
  refine Lq.nil ?_
  refine Kt.onSub (e' := [(1, va), (3, vb), (4, .pointer (some ⟨p4, 0, none⟩)), (6, .pointer (some ⟨p6, 0, none⟩)), (9, .int .i64 1)]) (Sub.cons rfl (Sub.cons rfl (Sub.cons rfl (Sub.cons rfl (Sub.cons rfl Sub.nil))))) ?_
  refine Wk.block ?_
  refine Wk.loop (σ := Nat) (fun k => k ≤ xs.length ∧ ∀ i : Nat, i < k → stillAt a xs b ys i = true) (fun k => [(1, va), (3, vb), (4, .pointer (some ⟨p4, 0, none⟩)), (6, .pointer (some ⟨p6, 0, none⟩)), (9, .int .i64 ((k : Int) + 1))]) (fun k => Own w.heap.size w [(p6, .cells #[.int .i64 b.n, str b.set, str b.rel] 26 (0, 0)), (p4, .cells #[.int .i64 a.n, str a.set, str a.rel] 26 (0, 0))]) (fun k => xs.length - k) (0) ⟨by omega, fun i hi => absurd hi (by omega)⟩ (Sub.cons rfl (Sub.cons rfl (Sub.cons rfl (Sub.cons rfl (Sub.cons (by simp [List.lookup]) Sub.nil))))) (fun _ h => h) ?_
  rintro k ⟨hk, hall⟩
  refine Wk.seq ?_
  refine Wk.seq ?_
  refine Wk.regionQ ?_
  refine Lq.op (v := .int .i64 ((k : Int) + 1)) rfl rfl rfl (OpQ.move rfl rfl) ?_
  refine Lq.op (v := va) rfl rfl rfl (OpQ.move rfl rfl) ?_
  refine Lq.op (v := .int .i64 ((xs.length : Int))) rfl rfl rfl (OpQ.lenRow rfl Tryd.runUnderlying31 rfl (ints_length _) (fun w1 hw1 => Row.own hva hw1)) ?_
  refine Lq.op (v := .bool (decide (((k : Int) + 1) ≤ ((xs.length : Int))))) rfl rfl rfl (OpQ.leq rfl rfl rfl) ?_
  refine Lq.nil ?_
  refine Kt.onSub (e' := [(1, va), (3, vb), (4, .pointer (some ⟨p4, 0, none⟩)), (6, .pointer (some ⟨p6, 0, none⟩)), (9, .int .i64 ((k : Int) + 1)), (13, .bool (decide (((k : Int) + 1) ≤ ((xs.length : Int)))))]) (Sub.cons rfl (Sub.cons rfl (Sub.cons rfl (Sub.cons rfl (Sub.cons rfl (Sub.cons rfl Sub.nil)))))) ?_
  refine Wk.cond (b := decide (((k : Int) + 1) ≤ ((xs.length : Int)))) rfl (fun h13 => ?_) (fun h13 => ?_)
  · skip
    replace h13 := of_decide_eq_true h13
    refine Wk.skip ?_
    refine Kt.onSub (e' := [(1, va), (3, vb), (4, .pointer (some ⟨p4, 0, none⟩)), (6, .pointer (some ⟨p6, 0, none⟩)), (9, .int .i64 ((k : Int) + 1))]) (Sub.cons rfl (Sub.cons rfl (Sub.cons rfl (Sub.cons rfl (Sub.cons rfl Sub.nil))))) ?_
    refine Wk.seq ?_
    refine Wk.block ?_
    refine Wk.seq ?_
    refine Wk.regionD Base.mixed (fun _ h => h.drawn) (by kernel_rfl) ?_
    refine Lq.op (v := vS a) rfl rfl rfl (OpQ.loadBox (cs := #[.int .i64 a.n, str a.set, str a.rel]) 1 rfl Tryd.isAgg26 rfl rfl Tryd.sizeOf26) ?_
    refine Lq.op (v := va) rfl rfl rfl (OpQ.move rfl rfl) ?_
    refine Lq.op (v := .int .i64 (((k + 1 : Nat) : Int))) rfl rfl rfl (OpQ.cast (by simp) (OpQ.move rfl rfl)) ?_
    refine Lq.op (v := sTake va ((k + 1))) rfl rfl rfl (OpQ.takeRow (i := ((k + 1 : Nat) : Int)) rfl Tryd.runUnderlying31 Tryd.sizeOf3 rfl rfl (by omega) (by rw [ints_length]; omega) (fun w1 hw1 => Row.own hva hw1)) ?_
    refine Lq.op (v := vS b) rfl rfl rfl (OpQ.loadBox (cs := #[.int .i64 b.n, str b.set, str b.rel]) 0 rfl Tryd.isAgg26 rfl rfl Tryd.sizeOf26) ?_
    refine Lq.op (v := vb) rfl rfl rfl (OpQ.move rfl rfl) ?_
    refine Lq.op (v := .int .i64 (((k + 1 : Nat) : Int))) rfl rfl rfl (OpQ.cast (by simp) (OpQ.move rfl rfl)) ?_
    refine Lq.op (v := sTake vb ((k + 1))) rfl rfl rfl (OpQ.takeRow (i := ((k + 1 : Nat) : Int)) rfl Tryd.runUnderlying31 Tryd.sizeOf3 rfl rfl (by omega) (by rw [ints_length]; omega) (fun w1 hw1 => Row.own hvb hw1)) ?_
    refine Lq.op (v := .bool (stillAt a xs b ys k)) rfl rfl rfl (OpQ.call rfl Tryd.call82 rfl Own.stable (fun w1 hw1 => known_b (stillAt_take (by omega)) (fits_ok a b (xs.take ((k + 1))) (ys.take ((k + 1))) (sTake va ((k + 1))) (sTake vb ((k + 1))) k w1 ha hb (Ints.take (Row.own hva hw1) ((k + 1)) (by omega)) (Ints.take (Row.own hvb hw1) ((k + 1)) (by omega)) (hA.take _) (hB.take _) (by simp; omega) (by simp; omega) (by omega)))) ?_
    refine Lq.op (v := .bool (!(stillAt a xs b ys k))) rfl rfl rfl (OpQ.not rfl rfl) ?_
    refine Lq.nil ?_
    refine Kt.onSub (e' := [(1, va), (3, vb), (4, .pointer (some ⟨p4, 0, none⟩)), (6, .pointer (some ⟨p6, 0, none⟩)), (9, .int .i64 ((k : Int) + 1)), (25, .bool (!(stillAt a xs b ys k)))]) (Sub.cons rfl (Sub.cons rfl (Sub.cons rfl (Sub.cons rfl (Sub.cons rfl (Sub.cons rfl Sub.nil)))))) ?_
    refine Wk.cond (b := !(stillAt a xs b ys k)) rfl (fun h25 => ?_) (fun h25 => ?_)
    · skip
      replace h25 := not_true h25
      refine Wk.seq ?_
      refine Wk.regionQ ?_
      refine Lq.op (v := .bool false) rfl rfl rfl (OpQ.assign rfl rfl) ?_
      refine Lq.nil ?_
      refine Kt.onSub (e' := [(8, .bool false)]) (Sub.cons rfl Sub.nil) ?_
      refine Wk.ret (Kt.end1 rfl rfl fun w' hw => ?_)
      -- ret 0: .bool false
      exact ⟨ret_b (sameB_false (k := k) (by omega) (by simpa using h25)).symm, hw.below⟩
    · skip
      replace h25 := not_false h25
      refine Wk.skip ?_
      refine Kt.onSub (e' := [(1, va), (3, vb), (4, .pointer (some ⟨p4, 0, none⟩)), (6, .pointer (some ⟨p6, 0, none⟩)), (9, .int .i64 ((k : Int) + 1))]) (Sub.cons rfl (Sub.cons rfl (Sub.cons rfl (Sub.cons rfl (Sub.cons rfl Sub.nil))))) ?_
      refine Wk.regionQ ?_
      refine Lq.op (v := .int .i64 ((k : Int) + 1)) rfl rfl rfl (OpQ.move rfl rfl) ?_
      refine Lq.op (v := .int .i64 (((k : Int) + 1) + (1 : Int))) rfl rfl rfl (OpQ.add rfl rfl rfl (by omega) (by omega)) ?_
      refine Lq.op (v := .int .i64 (((k : Int) + 1) + (1 : Int))) rfl rfl rfl (OpQ.assign rfl rfl) ?_
      refine Lq.nil ?_
      refine Kt.again (k + 1) ⟨by omega, fun i hi => (Nat.lt_succ_iff_lt_or_eq.1 hi).elim (hall i) (fun e => by subst e; simpa using h25)⟩ (by omega) (Sub.cons rfl (Sub.cons rfl (Sub.cons rfl (Sub.cons rfl (Sub.cons (by simp [List.lookup]) Sub.nil))))) (fun _ h => h)
  · skip
    replace h13 := of_decide_eq_false h13
    refine Wk.exit rfl ?_
    refine Kt.onSub (e' := []) Sub.nil ?_
    refine Wk.seq ?_
    refine Wk.regionQ ?_
    refine Lq.op (v := .bool true) rfl rfl rfl (OpQ.assign rfl rfl) ?_
    refine Lq.nil ?_
    refine Kt.onSub (e' := [(8, .bool true)]) (Sub.cons rfl Sub.nil) ?_
    refine Wk.ret (Kt.end1 rfl rfl fun w' hw => ?_)
    -- ret 1: .bool true
    exact ⟨ret_b (sameB_true (k := k) (by omega) hall).symm, hw.below⟩

set_option maxHeartbeats 400000 in
/-- impl.sameWay -/
theorem sameWay_ok (a b : St) (xs ys : List Int) (va vb : Value) (w : World) (ha : a.Fine) (hb : b.Fine) (hva : Ints w va xs) (hvb : Ints w vb ys) (hA : a.Els xs) (hB : b.Els ys) (hlen : xs.length = ys.length) (hsmall : xs.length ≤ 1000000) :
    Calls Tryd.prog 83 [vS a, va, vS b, vb].toArray w fun en w' => en = .returned (.bool (sameB a xs b ys)) ∧ Below w.heap.size w w' := by
  refine fnStart (n := 34) (e := [(0, vS a), (1, va), (2, vS b), (3, vb)]) Tryd.func83 rfl rfl rfl rfl Ends.both ?_
  refine Wk.seq ?_
  refine Wk.region ?_
  refine Ll.box (v := vS a) rfl rfl rfl rfl rfl fun p4 hp4 => ?_
  show Ll _ _ (Own _ _ [(p4, .cells #[.int .i64 a.n, str a.set, str a.rel] 26 (0, 0))]) _ _ ((4, .pointer (some ⟨p4, 0, none⟩)) :: _) _ _ _
  refine Ll.box (v := vS b) rfl rfl rfl rfl rfl fun p6 hp6 => ?_
  show Ll _ _ (Own _ _ [(p6, .cells #[.int .i64 b.n, str b.set, str b.rel] 26 (0, 0)), (p4, .cells #[.int .i64 a.n, str a.set, str a.rel] 26 (0, 0))]) _ _ ((6, .pointer (some ⟨p6, 0, none⟩)) :: _) _ _ _
  refine Ll.op (v := .bool false) rfl rfl rfl (OpQ.assign rfl rfl) ?_
  refine Ll.nil ?_
  refine Kt.onSub (e' := [(1, va), (3, vb), (4, .pointer (some ⟨p4, 0, none⟩)), (6, .pointer (some ⟨p6, 0, none⟩))]) (Sub.cons rfl (Sub.cons rfl (Sub.cons rfl (Sub.cons rfl Sub.nil)))) ?_
  refine Wk.seq ?_
  refine Wk.seq ?_
  refine Wk.regionQ ?_
  refine Lq.op (v := va) rfl rfl rfl (OpQ.move rfl rfl) ?_
  refine Lq.op (v := .int .i64 ((xs.length : Int))) rfl rfl rfl (OpQ.lenRow rfl Tryd.runUnderlying31 rfl (ints_length _) (fun w1 hw1 => Row.own hva hw1)) ?_
  refine Lq.op (v := .int .i64 0) rfl rfl rfl (OpQ.move rfl rfl) ?_
  refine Lq.nil ?_
  refine Kt.onSub (e' := [(1, va), (3, vb), (4, .pointer (some ⟨p4, 0, none⟩)), (6, .pointer (some ⟨p6, 0, none⟩)), (11, .int .i64 ((xs.length : Int))), (12, .int .i64 0)]) (Sub.cons rfl (Sub.cons rfl (Sub.cons rfl (Sub.cons rfl (Sub.cons rfl (Sub.cons rfl Sub.nil)))))) ?_
  refine Wk.block ?_
  refine Wk.loop (σ := Nat) (fun k => k ≤ xs.length ∧ ∀ i : Nat, i < k → stillAt a xs b ys i = true) (fun k => [(1, va), (3, vb), (4, .pointer (some ⟨p4, 0, none⟩)), (6, .pointer (some ⟨p6, 0, none⟩)), (11, .int .i64 ((xs.length : Int))), (12, .int .i64 ((k : Int)))]) (fun k => Own w.heap.size w [(p6, .cells #[.int .i64 b.n, str b.set, str b.rel] 26 (0, 0)), (p4, .cells #[.int .i64 a.n, str a.set, str a.rel] 26 (0, 0))]) (fun k => xs.length - k) (0) ⟨by omega, fun i hi => absurd hi (by omega)⟩ (Sub.cons rfl (Sub.cons rfl (Sub.cons rfl (Sub.cons rfl (Sub.cons rfl (Sub.cons rfl Sub.nil)))))) (fun _ h => h) ?_
  rintro k ⟨hk, hall⟩
  refine Wk.seq ?_
  refine Wk.regionQ ?_
  refine Lq.op (v := .bool (decide (((k : Int)) < ((xs.length : Int))))) rfl rfl rfl (OpQ.lss rfl rfl rfl) ?_
  refine Lq.nil ?_
  refine Kt.onSub (e' := [(1, va), (3, vb), (4, .pointer (some ⟨p4, 0, none⟩)), (6, .pointer (some ⟨p6, 0, none⟩)), (11, .int .i64 ((xs.length : Int))), (12, .int .i64 ((k : Int))), (13, .bool (decide (((k : Int)) < ((xs.length : Int)))))]) (Sub.cons rfl (Sub.cons rfl (Sub.cons rfl (Sub.cons rfl (Sub.cons rfl (Sub.cons rfl (Sub.cons rfl Sub.nil))))))) ?_
  refine Wk.seq ?_
  refine Wk.cond (b := decide (((k : Int)) < ((xs.length : Int)))) rfl (fun h13 => ?_) (fun h13 => ?_)
  · skip
    replace h13 := of_decide_eq_true h13
    refine Wk.skip ?_
    refine Kt.onSub (e' := [(1, va), (3, vb), (4, .pointer (some ⟨p4, 0, none⟩)), (6, .pointer (some ⟨p6, 0, none⟩)), (11, .int .i64 ((xs.length : Int))), (12, .int .i64 ((k : Int)))]) (Sub.cons rfl (Sub.cons rfl (Sub.cons rfl (Sub.cons rfl (Sub.cons rfl (Sub.cons rfl Sub.nil)))))) ?_
    refine Wk.seq ?_
    refine Wk.block ?_
    refine Wk.seq ?_
    refine Wk.regionQ ?_
    refine Lq.op (v := .int .i64 ((k : Int))) rfl rfl rfl (OpQ.move rfl rfl) ?_
    refine Lq.op (v := .int .i64 ((k : Int))) rfl rfl rfl (OpQ.assign rfl rfl) ?_
    refine Lq.nil ?_
    refine Kt.onSub (e' := [(1, va), (3, vb), (4, .pointer (some ⟨p4, 0, none⟩)), (6, .pointer (some ⟨p6, 0, none⟩)), (9, .int .i64 ((k : Int))), (11, .int .i64 ((xs.length : Int))), (12, .int .i64 ((k : Int)))]) (Sub.cons rfl (Sub.cons rfl (Sub.cons rfl (Sub.cons rfl (Sub.cons rfl (Sub.cons rfl (Sub.cons rfl Sub.nil))))))) ?_
    refine Wk.seq ?_
    refine Wk.regionD Base.mixed (fun _ h => h.drawn) (by kernel_rfl) ?_
    refine Lq.op (v := vS a) rfl rfl rfl (OpQ.loadBox (cs := #[.int .i64 a.n, str a.set, str a.rel]) 1 rfl Tryd.isAgg26 rfl rfl Tryd.sizeOf26) ?_
    refine Lq.op (v := va) rfl rfl rfl (OpQ.move rfl rfl) ?_
    refine Lq.op (v := .int .i64 ((k : Int))) rfl rfl rfl (OpQ.move rfl rfl) ?_
    refine Lq.op (v := sTake va k) rfl rfl rfl (OpQ.takeRow (i := (k : Int)) rfl Tryd.runUnderlying31 Tryd.sizeOf3 rfl rfl (by omega) (by rw [ints_length]; omega) (fun w1 hw1 => Row.own hva hw1)) ?_
    refine Lq.op (v := vS b) rfl rfl rfl (OpQ.loadBox (cs := #[.int .i64 b.n, str b.set, str b.rel]) 0 rfl Tryd.isAgg26 rfl rfl Tryd.sizeOf26) ?_
    refine Lq.op (v := vb) rfl rfl rfl (OpQ.move rfl rfl) ?_
    refine Lq.op (v := .int .i64 ((k : Int))) rfl rfl rfl (OpQ.move rfl rfl) ?_
    refine Lq.op (v := sTake vb k) rfl rfl rfl (OpQ.takeRow (i := (k : Int)) rfl Tryd.runUnderlying31 Tryd.sizeOf3 rfl rfl (by omega) (by rw [ints_length]; omega) (fun w1 hw1 => Row.own hvb hw1)) ?_
    refine Lq.op (v := va) rfl rfl rfl (OpQ.move rfl rfl) ?_
    refine Lq.op (v := .int .i64 ((k : Int))) rfl rfl rfl (OpQ.move rfl rfl) ?_
    refine Lq.op (v := .pointer (some (sAt va ((k : Int))))) rfl rfl rfl (OpQ.atRow rfl Tryd.runUnderlying31 Tryd.sizeOf3 rfl rfl (by omega) (by rw [ints_length]; omega) (fun w1 hw1 => Row.own hva hw1)) ?_
    refine Lq.op (v := .int .i64 (xs.getD (((k : Int)).toNat) 0)) rfl rfl rfl (OpQ.load1 rfl Tryd.isAgg3 rfl (fun w1 hw1 => Ints.cell (Row.own hva hw1) (by omega) (by omega))) ?_
    refine Lq.op (v := vb) rfl rfl rfl (OpQ.move rfl rfl) ?_
    refine Lq.op (v := .int .i64 ((k : Int))) rfl rfl rfl (OpQ.move rfl rfl) ?_
    refine Lq.op (v := .pointer (some (sAt vb ((k : Int))))) rfl rfl rfl (OpQ.atRow rfl Tryd.runUnderlying31 Tryd.sizeOf3 rfl rfl (by omega) (by rw [ints_length]; omega) (fun w1 hw1 => Row.own hvb hw1)) ?_
    refine Lq.op (v := .int .i64 (ys.getD (((k : Int)).toNat) 0)) rfl rfl rfl (OpQ.load1 rfl Tryd.isAgg3 rfl (fun w1 hw1 => Ints.cell (Row.own hvb hw1) (by omega) (by omega))) ?_
    refine Lq.op (v := .bool (stillB a (xs.take k) b (ys.take k) (xs.getD (((k : Int)).toNat) 0) (ys.getD (((k : Int)).toNat) 0))) rfl rfl rfl (OpQ.call rfl Tryd.call81 rfl Own.stable (fun w1 hw1 => stillSame_ok a b (xs.take k) (ys.take k) (sTake va k) (sTake vb k) (xs.getD (((k : Int)).toNat) 0) (ys.getD (((k : Int)).toNat) 0) w1 (ha) (hb) ((Ints.take (Row.own hva hw1) k (by omega))) ((Ints.take (Row.own hvb hw1) k (by omega))) ((hA.take _)) ((hB.take _)) ((by first | (simp; done) | (simp; omega) | omega)) ((by first | (simp; done) | (simp; omega) | omega)) ((by first | assumption | exact St.Els.at (by assumption) (by omega) (by omega))) ((by first | assumption | exact St.Els.at (by assumption) (by omega) (by omega))))) ?_
    refine Lq.op (v := .bool (!(stillB a (xs.take k) b (ys.take k) (xs.getD (((k : Int)).toNat) 0) (ys.getD (((k : Int)).toNat) 0)))) rfl rfl rfl (OpQ.not rfl rfl) ?_
    refine Lq.nil ?_
    refine Kt.onSub (e' := [(1, va), (3, vb), (4, .pointer (some ⟨p4, 0, none⟩)), (6, .pointer (some ⟨p6, 0, none⟩)), (11, .int .i64 ((xs.length : Int))), (12, .int .i64 ((k : Int))), (32, .bool (!(stillB a (xs.take k) b (ys.take k) (xs.getD (((k : Int)).toNat) 0) (ys.getD (((k : Int)).toNat) 0))))]) (Sub.cons rfl (Sub.cons rfl (Sub.cons rfl (Sub.cons rfl (Sub.cons rfl (Sub.cons rfl (Sub.cons rfl Sub.nil))))))) ?_
    refine Wk.cond (b := !(stillB a (xs.take k) b (ys.take k) (xs.getD (((k : Int)).toNat) 0) (ys.getD (((k : Int)).toNat) 0))) rfl (fun h32 => ?_) (fun h32 => ?_)
    · skip
      replace h32 := not_true h32
      refine Wk.seq ?_
      refine Wk.regionQ ?_
      refine Lq.op (v := .bool false) rfl rfl rfl (OpQ.assign rfl rfl) ?_
      refine Lq.nil ?_
      refine Kt.onSub (e' := [(8, .bool false)]) (Sub.cons rfl Sub.nil) ?_
      refine Wk.ret (Kt.end1 rfl rfl fun w' hw => ?_)
      -- ret 0: .bool false
      exact ⟨ret_b (sameB_false (k := k) (by omega) (by simpa [stillAt] using h32)).symm, hw.below⟩
    · skip
      replace h32 := not_false h32
      refine Wk.skip ?_
      refine Kt.onSub (e' := [(1, va), (3, vb), (4, .pointer (some ⟨p4, 0, none⟩)), (6, .pointer (some ⟨p6, 0, none⟩)), (11, .int .i64 ((xs.length : Int))), (12, .int .i64 ((k : Int)))]) (Sub.cons rfl (Sub.cons rfl (Sub.cons rfl (Sub.cons rfl (Sub.cons rfl (Sub.cons rfl Sub.nil)))))) ?_
      refine Wk.regionQ ?_
      refine Lq.op (v := .int .i64 (((k : Int)) + (1 : Int))) rfl rfl rfl (OpQ.add rfl rfl rfl (by omega) (by omega)) ?_
      refine Lq.op (v := .int .i64 (((k : Int)) + (1 : Int))) rfl rfl rfl (OpQ.move rfl rfl) ?_
      refine Lq.nil ?_
      refine Kt.again (k + 1) ⟨by omega, fun i hi => (Nat.lt_succ_iff_lt_or_eq.1 hi).elim (hall i) (fun e => by subst e; simpa [stillAt] using h32)⟩ (by omega) (Sub.cons rfl (Sub.cons rfl (Sub.cons rfl (Sub.cons rfl (Sub.cons rfl (Sub.cons rfl Sub.nil)))))) (fun _ h => h)
  · skip
    replace h13 := of_decide_eq_false h13
    refine Wk.exit rfl ?_
    refine Kt.onSub (e' := []) Sub.nil ?_
    refine Wk.seq ?_
    refine Wk.regionQ ?_
    refine Lq.op (v := .bool true) rfl rfl rfl (OpQ.assign rfl rfl) ?_
    refine Lq.nil ?_
    refine Kt.onSub (e' := [(8, .bool true)]) (Sub.cons rfl Sub.nil) ?_
    refine Wk.ret (Kt.end1 rfl rfl fun w' hw => ?_)
    -- ret 1: .bool true
    exact ⟨ret_b (sameB_true (k := k) (by omega) hall).symm, hw.below⟩

set_option maxHeartbeats 400000 in
/-- impl.IsPartial -/
theorem iPart_ok (a b : St) (xs ys : List Int) (va vb : Value) (w : World) (hsa : a.Small) (hsb : b.Small) (hva : Ints w va xs) (hvb : Ints w vb ys) (hs1 : xs.length ≤ 140737488355328) (hs2 : ys.length ≤ 140737488355328) :
    Calls Tryd.prog 40 [vS a, va, vS b, vb].toArray w fun en w' => en = .returned (.bool (wayB a xs b ys)) ∧ Below w.heap.size w w' := by
  refine fnStart (n := 21) (e := [(0, vS a), (1, va), (2, vS b), (3, vb)]) Tryd.func40 rfl rfl rfl rfl Ends.both ?_
  refine Wk.seq ?_
  refine Wk.region ?_
  refine Ll.box (v := vS a) rfl rfl rfl rfl rfl fun p4 hp4 => ?_
  show Ll _ _ (Own _ _ [(p4, .cells #[.int .i64 a.n, str a.set, str a.rel] 26 (0, 0))]) _ _ ((4, .pointer (some ⟨p4, 0, none⟩)) :: _) _ _ _
  refine Ll.box (v := vS b) rfl rfl rfl rfl rfl fun p6 hp6 => ?_
  show Ll _ _ (Own _ _ [(p6, .cells #[.int .i64 b.n, str b.set, str b.rel] 26 (0, 0)), (p4, .cells #[.int .i64 a.n, str a.set, str a.rel] 26 (0, 0))]) _ _ ((6, .pointer (some ⟨p6, 0, none⟩)) :: _) _ _ _
  refine Ll.op (v := .bool false) rfl rfl rfl (OpQ.assign rfl rfl) ?_
  refine Ll.nil ?_
  refine Kt.onSub (e' := [(1, va), (3, vb), (4, .pointer (some ⟨p4, 0, none⟩)), (6, .pointer (some ⟨p6, 0, none⟩))]) (Sub.cons rfl (Sub.cons rfl (Sub.cons rfl (Sub.cons rfl Sub.nil)))) ?_
  refine Wk.seq ?_
  refine Wk.regionQ ?_
  refine Lq.op (v := vS a) rfl rfl rfl (OpQ.loadBox (cs := #[.int .i64 a.n, str a.set, str a.rel]) 1 rfl Tryd.isAgg26 rfl rfl Tryd.sizeOf26) ?_
  refine Lq.op (v := va) rfl rfl rfl (OpQ.move rfl rfl) ?_
  refine Lq.op (v := vS b) rfl rfl rfl (OpQ.loadBox (cs := #[.int .i64 b.n, str b.set, str b.rel]) 0 rfl Tryd.isAgg26 rfl rfl Tryd.sizeOf26) ?_
  refine Lq.op (v := vb) rfl rfl rfl (OpQ.move rfl rfl) ?_
  refine Lq.op (v := .bool (listsB a xs b ys)) rfl rfl rfl (OpQ.call rfl Tryd.call65 rfl Own.stable (fun w1 hw1 => areLists_ok a b xs ys va vb w1 hsa hsb (Row.own hva hw1) (Row.own hvb hw1) (by first | (simp; done) | (simp; omega) | omega) (by first | (simp; done) | (simp; omega) | omega))) ?_
  refine Lq.op (v := .bool (listsB a xs b ys)) rfl rfl rfl (OpQ.move rfl rfl) ?_
  refine Lq.bool fun b14 hg14 => ?_
  cases b14
  · skip
    refine Lq.pass rfl rfl rfl ?_
    refine Lq.pass rfl rfl rfl ?_
    refine Lq.pass rfl rfl rfl ?_
    refine Lq.pass rfl rfl rfl ?_
    refine Lq.pass rfl rfl rfl ?_
    refine Lq.op (v := .bool false) rfl rfl rfl (OpQ.pickF rfl rfl rfl) ?_
    refine Lq.op (v := .bool false) rfl rfl rfl (OpQ.assign rfl rfl) ?_
    refine Lq.nil ?_
    refine Kt.onSub (e' := [(8, .bool false)]) (Sub.cons rfl Sub.nil) ?_
    refine Wk.ret (Kt.end1 rfl rfl fun w' hw => ?_)
    -- ret 0: .bool false
    exact ⟨ret_b (by unfold wayB; simp [*]), hw.below⟩
  · skip
    obtain ⟨LA, LB, hlen⟩ := listsB_true hg14
    have ha := LA.fine
    have hb := LB.fine
    have hA := LA.els
    have hB := LB.els
    have hl4 := LA.len
    refine Lq.op (v := vS a) rfl rfl rfl (OpQ.loadBox (cs := #[.int .i64 a.n, str a.set, str a.rel]) 1 rfl Tryd.isAgg26 rfl rfl Tryd.sizeOf26) ?_
    refine Lq.op (v := va) rfl rfl rfl (OpQ.move rfl rfl) ?_
    refine Lq.op (v := vS b) rfl rfl rfl (OpQ.loadBox (cs := #[.int .i64 b.n, str b.set, str b.rel]) 0 rfl Tryd.isAgg26 rfl rfl Tryd.sizeOf26) ?_
    refine Lq.op (v := vb) rfl rfl rfl (OpQ.move rfl rfl) ?_
    refine Lq.op (v := .bool (sameB a xs b ys)) rfl rfl rfl (OpQ.call rfl Tryd.call83 rfl Own.stable (fun w1 hw1 => sameWay_ok a b xs ys va vb w1 ha hb (Row.own hva hw1) (Row.own hvb hw1) hA hB (by omega) (by omega))) ?_
    refine Lq.op (v := .bool (sameB a xs b ys)) rfl rfl rfl (OpQ.pickT rfl rfl rfl) ?_
    refine Lq.op (v := .bool (sameB a xs b ys)) rfl rfl rfl (OpQ.assign rfl rfl) ?_
    refine Lq.nil ?_
    refine Kt.onSub (e' := [(8, .bool (sameB a xs b ys))]) (Sub.cons rfl Sub.nil) ?_
    refine Wk.ret (Kt.end1 rfl rfl fun w' hw => ?_)
    -- ret 1: .bool (sameB a xs b ys)
    exact ⟨ret_b (by unfold wayB; simp [*]), hw.below⟩

set_option maxHeartbeats 400000 in
/-- spec.LongestPartial -/
theorem sLong_ok (a b : St) (xs ys : List Int) (va vb : Value) (w : World) (hsa : a.Small) (hsb : b.Small) (hva : Ints w va xs) (hvb : Ints w vb ys) (hs1 : xs.length ≤ 140737488355328) (hs2 : ys.length ≤ 140737488355328) (loa : -9223372036854775808 ≤ a.n) (hia : a.n ≤ 9223372036854775807) (lob : -9223372036854775808 ≤ b.n) (hib : b.n ≤ 9223372036854775807) :
    Calls Tryd.prog 39 [vS a, va, vS b, vb].toArray w fun en w' => en = .returned (.int .i64 (longI a xs b ys)) ∧ Below w.heap.size w w' := by
  refine fnStart (n := 36) (e := [(0, vS a), (1, va), (2, vS b), (3, vb)]) Tryd.func39 rfl rfl rfl rfl Ends.both ?_
  refine Wk.seq ?_
  refine Wk.region ?_
  refine Ll.box (v := vS a) rfl rfl rfl rfl rfl fun p4 hp4 => ?_
  show Ll _ _ (Own _ _ [(p4, .cells #[.int .i64 a.n, str a.set, str a.rel] 26 (0, 0))]) _ _ ((4, .pointer (some ⟨p4, 0, none⟩)) :: _) _ _ _
  refine Ll.box (v := vS b) rfl rfl rfl rfl rfl fun p6 hp6 => ?_
  show Ll _ _ (Own _ _ [(p6, .cells #[.int .i64 b.n, str b.set, str b.rel] 26 (0, 0)), (p4, .cells #[.int .i64 a.n, str a.set, str a.rel] 26 (0, 0))]) _ _ ((6, .pointer (some ⟨p6, 0, none⟩)) :: _) _ _ _
  refine Ll.op (v := .int .i64 0) rfl rfl rfl (OpQ.assign rfl rfl) ?_
  refine Ll.nil ?_
  refine Kt.onSub (e' := [(1, va), (3, vb), (4, .pointer (some ⟨p4, 0, none⟩)), (6, .pointer (some ⟨p6, 0, none⟩))]) (Sub.cons rfl (Sub.cons rfl (Sub.cons rfl (Sub.cons rfl Sub.nil)))) ?_
  refine Wk.seq ?_
  refine Wk.regionQ ?_
  refine Lq.op (v := .int .i64 0) rfl rfl rfl (OpQ.assign rfl rfl) ?_
  refine Lq.nil ?_
  refine Kt.onSub (e' := [(1, va), (3, vb), (4, .pointer (some ⟨p4, 0, none⟩)), (6, .pointer (some ⟨p6, 0, none⟩)), (9, .int .i64 0)]) (Sub.cons rfl (Sub.cons rfl (Sub.cons rfl (Sub.cons rfl (Sub.cons rfl Sub.nil))))) ?_
  refine Wk.seq ?_
  refine Wk.seq ?_
  refine Wk.regionQ ?_
  refine Lq.op (v := vS a) rfl rfl rfl (OpQ.loadBox (cs := #[.int .i64 a.n, str a.set, str a.rel]) 1 rfl Tryd.isAgg26 rfl rfl Tryd.sizeOf26) ?_
  refine Lq.op (v := va) rfl rfl rfl (OpQ.move rfl rfl) ?_
  refine Lq.op (v := vS b) rfl rfl rfl (OpQ.loadBox (cs := #[.int .i64 b.n, str b.set, str b.rel]) 0 rfl Tryd.isAgg26 rfl rfl Tryd.sizeOf26) ?_
  refine Lq.op (v := vb) rfl rfl rfl (OpQ.move rfl rfl) ?_
  refine Lq.op (v := .bool (listsB a xs b ys)) rfl rfl rfl (OpQ.call rfl Tryd.call64 rfl Own.stable (fun w1 hw1 => l4Lists_ok a b xs ys va vb w1 hsa hsb (Row.own hva hw1) (Row.own hvb hw1) (by first | (simp; done) | (simp; omega) | omega) (by first | (simp; done) | (simp; omega) | omega) loa hia lob hib)) ?_
  refine Lq.op (v := .bool (!(listsB a xs b ys))) rfl rfl rfl (OpQ.not rfl rfl) ?_
  refine Lq.nil ?_
  refine Kt.onSub (e' := [(1, va), (3, vb), (4, .pointer (some ⟨p4, 0, none⟩)), (6, .pointer (some ⟨p6, 0, none⟩)), (9, .int .i64 0), (15, .bool (!(listsB a xs b ys)))]) (Sub.cons rfl (Sub.cons rfl (Sub.cons rfl (Sub.cons rfl (Sub.cons rfl (Sub.cons rfl Sub.nil)))))) ?_
  refine Wk.cond (b := !(listsB a xs b ys)) rfl (fun h15 => ?_) (fun h15 => ?_)
  · skip
    replace h15 := not_true h15
    refine Wk.seq ?_
    refine Wk.regionQ ?_
    refine Lq.op (v := .int .i64 (-1)) rfl rfl rfl (OpQ.assign rfl rfl) ?_
    refine Lq.nil ?_
    refine Kt.onSub (e' := [(8, .int .i64 (-1))]) (Sub.cons rfl Sub.nil) ?_
    refine Wk.ret (Kt.end1 rfl rfl fun w' hw => ?_)
    -- ret 0: .int .i64 (-1)
    exact ⟨ret_i (by unfold longI; simp_all), hw.below⟩
  · skip
    replace h15 := not_false h15
    replace h15 : listsB a xs b ys = true := by simpa using h15
    obtain ⟨LA, LB, hlen⟩ := listsB_true h15
    have ha := LA.fine
    have hb := LB.fine
    have hA := LA.els
    have hB := LB.els
    have hl4 := LA.len
    refine Wk.skip ?_
    refine Kt.onSub (e' := [(1, va), (3, vb), (4, .pointer (some ⟨p4, 0, none⟩)), (6, .pointer (some ⟨p6, 0, none⟩)), (9, .int .i64 0)]) (Sub.cons rfl (Sub.cons rfl (Sub.cons rfl (Sub.cons rfl (Sub.cons rfl Sub.nil))))) ?_
    refine Wk.seq ?_
    refine Wk.block ?_
    refine Wk.loop (σ := Nat) (fun k => k ≤ xs.length ∧ ∀ i : Nat, i < k → stillAt a xs b ys i = true) (fun k => [(1, va), (3, vb), (4, .pointer (some ⟨p4, 0, none⟩)), (6, .pointer (some ⟨p6, 0, none⟩)), (9, .int .i64 ((k : Int)))]) (fun k => Own w.heap.size w [(p6, .cells #[.int .i64 b.n, str b.set, str b.rel] 26 (0, 0)), (p4, .cells #[.int .i64 a.n, str a.set, str a.rel] 26 (0, 0))]) (fun k => xs.length - k) (0) ⟨by omega, fun i hi => absurd hi (by omega)⟩ (Sub.cons rfl (Sub.cons rfl (Sub.cons rfl (Sub.cons rfl (Sub.cons rfl Sub.nil))))) (fun _ h => h) ?_
    rintro k ⟨hk, hall⟩
    refine Wk.seq ?_
    refine Wk.seq ?_
    refine Wk.regionD Base.mixed (fun _ h => h.drawn) (by kernel_rfl) ?_
    refine Lq.op (v := .int .i64 ((k : Int))) rfl rfl rfl (OpQ.move rfl rfl) ?_
    refine Lq.op (v := va) rfl rfl rfl (OpQ.move rfl rfl) ?_
    refine Lq.op (v := .int .i64 ((xs.length : Int))) rfl rfl rfl (OpQ.lenRow rfl Tryd.runUnderlying31 rfl (ints_length _) (fun w1 hw1 => Row.own hva hw1)) ?_
    refine Lq.op (v := .bool (decide (((k : Int)) < ((xs.length : Int))))) rfl rfl rfl (OpQ.lss rfl rfl rfl) ?_
    refine Lq.op (v := .bool (decide (((k : Int)) < ((xs.length : Int))))) rfl rfl rfl (OpQ.move rfl rfl) ?_
    refine Lq.bool fun b20 hg20 => ?_
    cases b20
    · skip
      replace hg20 := of_decide_eq_false hg20
      refine Lq.pass rfl rfl rfl ?_
      refine Lq.pass rfl rfl rfl ?_
      refine Lq.pass rfl rfl rfl ?_
      refine Lq.pass rfl rfl rfl ?_
      refine Lq.pass rfl rfl rfl ?_
      refine Lq.pass rfl rfl rfl ?_
      refine Lq.pass rfl rfl rfl ?_
      refine Lq.pass rfl rfl rfl ?_
      refine Lq.pass rfl rfl rfl ?_
      refine Lq.pass rfl rfl rfl ?_
      refine Lq.pass rfl rfl rfl ?_
      refine Lq.op (v := .bool false) rfl rfl rfl (OpQ.pickF rfl rfl rfl) ?_
      refine Lq.nil ?_
      refine Kt.onSub (e' := [(1, va), (3, vb), (4, .pointer (some ⟨p4, 0, none⟩)), (6, .pointer (some ⟨p6, 0, none⟩)), (9, .int .i64 ((k : Int))), (32, .bool false)]) (Sub.cons rfl (Sub.cons rfl (Sub.cons rfl (Sub.cons rfl (Sub.cons rfl (Sub.cons rfl Sub.nil)))))) ?_
      refine Wk.condF rfl ?_
      refine Wk.exit rfl ?_
      refine Kt.onSub (e' := [(9, .int .i64 ((k : Int)))]) (Sub.cons rfl Sub.nil) ?_
      refine Wk.seq ?_
      refine Wk.regionQ ?_
      refine Lq.op (v := .int .i64 ((k : Int))) rfl rfl rfl (OpQ.move rfl rfl) ?_
      refine Lq.op (v := .int .i64 ((k : Int))) rfl rfl rfl (OpQ.assign rfl rfl) ?_
      refine Lq.nil ?_
      refine Kt.onSub (e' := [(8, .int .i64 ((k : Int)))]) (Sub.cons rfl Sub.nil) ?_
      refine Wk.ret (Kt.end1 rfl rfl fun w' hw => ?_)
      -- ret 1: .int .i64 ((k : Int))
      exact ⟨ret_i (by first | exact (longI_at h15 (by omega) hall (by assumption)).symm | (obtain rfl : k = xs.length := (by omega); exact (longI_all h15 hall).symm)), hw.below⟩
    · skip
      replace hg20 := of_decide_eq_true hg20
      refine Lq.op (v := vS a) rfl rfl rfl (OpQ.loadBox (cs := #[.int .i64 a.n, str a.set, str a.rel]) 1 rfl Tryd.isAgg26 rfl rfl Tryd.sizeOf26) ?_
      refine Lq.op (v := va) rfl rfl rfl (OpQ.move rfl rfl) ?_
      refine Lq.op (v := .int .i64 ((k : Int))) rfl rfl rfl (OpQ.move rfl rfl) ?_
      refine Lq.op (v := .int .i64 (((k + 1 : Nat) : Int))) rfl rfl rfl (OpQ.cast (by simp) (OpQ.add rfl rfl rfl (by omega) (by omega))) ?_
      refine Lq.op (v := sTake va ((k + 1))) rfl rfl rfl (OpQ.takeRow (i := ((k + 1 : Nat) : Int)) rfl Tryd.runUnderlying31 Tryd.sizeOf3 rfl rfl (by omega) (by rw [ints_length]; omega) (fun w1 hw1 => Row.own hva hw1)) ?_
      refine Lq.op (v := vS b) rfl rfl rfl (OpQ.loadBox (cs := #[.int .i64 b.n, str b.set, str b.rel]) 0 rfl Tryd.isAgg26 rfl rfl Tryd.sizeOf26) ?_
      refine Lq.op (v := vb) rfl rfl rfl (OpQ.move rfl rfl) ?_
      refine Lq.op (v := .int .i64 ((k : Int))) rfl rfl rfl (OpQ.move rfl rfl) ?_
      refine Lq.op (v := .int .i64 (((k + 1 : Nat) : Int))) rfl rfl rfl (OpQ.cast (by simp) (OpQ.add rfl rfl rfl (by omega) (by omega))) ?_
      refine Lq.op (v := sTake vb ((k + 1))) rfl rfl rfl (OpQ.takeRow (i := ((k + 1 : Nat) : Int)) rfl Tryd.runUnderlying31 Tryd.sizeOf3 rfl rfl (by omega) (by rw [ints_length]; omega) (fun w1 hw1 => Row.own hvb hw1)) ?_
      refine Lq.op (v := .bool (stillAt a xs b ys k)) rfl rfl rfl (OpQ.call rfl Tryd.call82 rfl Own.stable (fun w1 hw1 => known_b (stillAt_take (by omega)) (fits_ok a b (xs.take ((k + 1))) (ys.take ((k + 1))) (sTake va ((k + 1))) (sTake vb ((k + 1))) k w1 ha hb (Ints.take (Row.own hva hw1) ((k + 1)) (by omega)) (Ints.take (Row.own hvb hw1) ((k + 1)) (by omega)) (hA.take _) (hB.take _) (by simp; omega) (by simp; omega) (by omega)))) ?_
      refine Lq.op (v := .bool (stillAt a xs b ys k)) rfl rfl rfl (OpQ.pickT rfl rfl rfl) ?_
      refine Lq.nil ?_
      refine Kt.onSub (e' := [(1, va), (3, vb), (4, .pointer (some ⟨p4, 0, none⟩)), (6, .pointer (some ⟨p6, 0, none⟩)), (9, .int .i64 ((k : Int))), (32, .bool (stillAt a xs b ys k))]) (Sub.cons rfl (Sub.cons rfl (Sub.cons rfl (Sub.cons rfl (Sub.cons rfl (Sub.cons rfl Sub.nil)))))) ?_
      refine Wk.cond (b := stillAt a xs b ys k) rfl (fun h32 => ?_) (fun h32 => ?_)
      · skip
        refine Wk.skip ?_
        refine Kt.onSub (e' := [(1, va), (3, vb), (4, .pointer (some ⟨p4, 0, none⟩)), (6, .pointer (some ⟨p6, 0, none⟩)), (9, .int .i64 ((k : Int)))]) (Sub.cons rfl (Sub.cons rfl (Sub.cons rfl (Sub.cons rfl (Sub.cons rfl Sub.nil))))) ?_
        refine Wk.block ?_
        refine Wk.regionQ ?_
        refine Lq.op (v := .int .i64 ((k : Int))) rfl rfl rfl (OpQ.move rfl rfl) ?_
        refine Lq.op (v := .int .i64 (((k : Int)) + (1 : Int))) rfl rfl rfl (OpQ.add rfl rfl rfl (by omega) (by omega)) ?_
        refine Lq.op (v := .int .i64 (((k : Int)) + (1 : Int))) rfl rfl rfl (OpQ.assign rfl rfl) ?_
        refine Lq.nil ?_
        refine Kt.again (k + 1) ⟨by omega, fun i hi => (Nat.lt_succ_iff_lt_or_eq.1 hi).elim (hall i) (fun e => by subst e; exact h32)⟩ (by omega) (Sub.cons rfl (Sub.cons rfl (Sub.cons rfl (Sub.cons rfl (Sub.cons rfl Sub.nil))))) (fun _ h => h)
      · skip
        refine Wk.exit rfl ?_
        refine Kt.onSub (e' := [(9, .int .i64 ((k : Int)))]) (Sub.cons rfl Sub.nil) ?_
        refine Wk.seq ?_
        refine Wk.regionQ ?_
        refine Lq.op (v := .int .i64 ((k : Int))) rfl rfl rfl (OpQ.move rfl rfl) ?_
        refine Lq.op (v := .int .i64 ((k : Int))) rfl rfl rfl (OpQ.assign rfl rfl) ?_
        refine Lq.nil ?_
        refine Kt.onSub (e' := [(8, .int .i64 ((k : Int)))]) (Sub.cons rfl Sub.nil) ?_
        refine Wk.ret (Kt.end1 rfl rfl fun w' hw => ?_)
        -- ret 2: .int .i64 ((k : Int))
        exact ⟨ret_i (by first | exact (longI_at h15 (by omega) hall (by assumption)).symm | (obtain rfl : k = xs.length := (by omega); exact (longI_all h15 hall).symm)), hw.below⟩

set_option maxHeartbeats 400000 in
/-- impl.LongestPartial -/
theorem iLong_ok (a b : St) (xs ys : List Int) (va vb : Value) (w : World) (hsa : a.Small) (hsb : b.Small) (hva : Ints w va xs) (hvb : Ints w vb ys) (hs1 : xs.length ≤ 140737488355328) (hs2 : ys.length ≤ 140737488355328) :
    Calls Tryd.prog 38 [vS a, va, vS b, vb].toArray w fun en w' => en = .returned (.int .i64 (longI a xs b ys)) ∧ Below w.heap.size w w' := by
  refine fnStart (n := 42) (e := [(0, vS a), (1, va), (2, vS b), (3, vb)]) Tryd.func38 rfl rfl rfl rfl Ends.both ?_
  refine Wk.seq ?_
  refine Wk.region ?_
  refine Ll.box (v := vS a) rfl rfl rfl rfl rfl fun p4 hp4 => ?_
  show Ll _ _ (Own _ _ [(p4, .cells #[.int .i64 a.n, str a.set, str a.rel] 26 (0, 0))]) _ _ ((4, .pointer (some ⟨p4, 0, none⟩)) :: _) _ _ _
  refine Ll.box (v := vS b) rfl rfl rfl rfl rfl fun p6 hp6 => ?_
  show Ll _ _ (Own _ _ [(p6, .cells #[.int .i64 b.n, str b.set, str b.rel] 26 (0, 0)), (p4, .cells #[.int .i64 a.n, str a.set, str a.rel] 26 (0, 0))]) _ _ ((6, .pointer (some ⟨p6, 0, none⟩)) :: _) _ _ _
  refine Ll.op (v := .int .i64 0) rfl rfl rfl (OpQ.assign rfl rfl) ?_
  refine Ll.nil ?_
  refine Kt.onSub (e' := [(1, va), (3, vb), (4, .pointer (some ⟨p4, 0, none⟩)), (6, .pointer (some ⟨p6, 0, none⟩))]) (Sub.cons rfl (Sub.cons rfl (Sub.cons rfl (Sub.cons rfl Sub.nil)))) ?_
  refine Wk.seq ?_
  refine Wk.seq ?_
  refine Wk.regionQ ?_
  refine Lq.op (v := vS a) rfl rfl rfl (OpQ.loadBox (cs := #[.int .i64 a.n, str a.set, str a.rel]) 1 rfl Tryd.isAgg26 rfl rfl Tryd.sizeOf26) ?_
  refine Lq.op (v := va) rfl rfl rfl (OpQ.move rfl rfl) ?_
  refine Lq.op (v := vS b) rfl rfl rfl (OpQ.loadBox (cs := #[.int .i64 b.n, str b.set, str b.rel]) 0 rfl Tryd.isAgg26 rfl rfl Tryd.sizeOf26) ?_
  refine Lq.op (v := vb) rfl rfl rfl (OpQ.move rfl rfl) ?_
  refine Lq.op (v := .bool (listsB a xs b ys)) rfl rfl rfl (OpQ.call rfl Tryd.call65 rfl Own.stable (fun w1 hw1 => areLists_ok a b xs ys va vb w1 hsa hsb (Row.own hva hw1) (Row.own hvb hw1) (by first | (simp; done) | (simp; omega) | omega) (by first | (simp; done) | (simp; omega) | omega))) ?_
  refine Lq.op (v := .bool (!(listsB a xs b ys))) rfl rfl rfl (OpQ.not rfl rfl) ?_
  refine Lq.nil ?_
  refine Kt.onSub (e' := [(1, va), (3, vb), (4, .pointer (some ⟨p4, 0, none⟩)), (6, .pointer (some ⟨p6, 0, none⟩)), (15, .bool (!(listsB a xs b ys)))]) (Sub.cons rfl (Sub.cons rfl (Sub.cons rfl (Sub.cons rfl (Sub.cons rfl Sub.nil))))) ?_
  refine Wk.cond (b := !(listsB a xs b ys)) rfl (fun h15 => ?_) (fun h15 => ?_)
  · skip
    replace h15 := not_true h15
    refine Wk.seq ?_
    refine Wk.regionQ ?_
    refine Lq.op (v := .int .i64 (-1)) rfl rfl rfl (OpQ.assign rfl rfl) ?_
    refine Lq.nil ?_
    refine Kt.onSub (e' := [(8, .int .i64 (-1))]) (Sub.cons rfl Sub.nil) ?_
    refine Wk.ret (Kt.end1 rfl rfl fun w' hw => ?_)
    -- ret 0: .int .i64 (-1)
    exact ⟨ret_i (by unfold longI; simp_all), hw.below⟩
  · skip
    replace h15 := not_false h15
    replace h15 : listsB a xs b ys = true := by simpa using h15
    obtain ⟨LA, LB, hlen⟩ := listsB_true h15
    have ha := LA.fine
    have hb := LB.fine
    have hA := LA.els
    have hB := LB.els
    have hl4 := LA.len
    refine Wk.skip ?_
    refine Kt.onSub (e' := [(1, va), (3, vb), (4, .pointer (some ⟨p4, 0, none⟩)), (6, .pointer (some ⟨p6, 0, none⟩))]) (Sub.cons rfl (Sub.cons rfl (Sub.cons rfl (Sub.cons rfl Sub.nil)))) ?_
    refine Wk.seq ?_
    refine Wk.regionQ ?_
    refine Lq.op (v := .int .i64 0) rfl rfl rfl (OpQ.assign rfl rfl) ?_
    refine Lq.nil ?_
    refine Kt.onSub (e' := [(1, va), (3, vb), (4, .pointer (some ⟨p4, 0, none⟩)), (6, .pointer (some ⟨p6, 0, none⟩)), (9, .int .i64 0)]) (Sub.cons rfl (Sub.cons rfl (Sub.cons rfl (Sub.cons rfl (Sub.cons rfl Sub.nil))))) ?_
    refine Wk.seq ?_
    refine Wk.block ?_
    refine Wk.loop (σ := Nat) (fun k => k ≤ xs.length ∧ ∀ i : Nat, i < k → stillAt a xs b ys i = true) (fun k => [(1, va), (3, vb), (4, .pointer (some ⟨p4, 0, none⟩)), (6, .pointer (some ⟨p6, 0, none⟩)), (9, .int .i64 ((k : Int)))]) (fun k => Own w.heap.size w [(p6, .cells #[.int .i64 b.n, str b.set, str b.rel] 26 (0, 0)), (p4, .cells #[.int .i64 a.n, str a.set, str a.rel] 26 (0, 0))]) (fun k => xs.length - k) (0) ⟨by omega, fun i hi => absurd hi (by omega)⟩ (Sub.cons rfl (Sub.cons rfl (Sub.cons rfl (Sub.cons rfl (Sub.cons rfl Sub.nil))))) (fun _ h => h) ?_
    rintro k ⟨hk, hall⟩
    refine Wk.seq ?_
    refine Wk.seq ?_
    refine Wk.regionD Base.mixed (fun _ h => h.drawn) (by kernel_rfl) ?_
    refine Lq.op (v := .int .i64 ((k : Int))) rfl rfl rfl (OpQ.move rfl rfl) ?_
    refine Lq.op (v := va) rfl rfl rfl (OpQ.move rfl rfl) ?_
    refine Lq.op (v := .int .i64 ((xs.length : Int))) rfl rfl rfl (OpQ.lenRow rfl Tryd.runUnderlying31 rfl (ints_length _) (fun w1 hw1 => Row.own hva hw1)) ?_
    refine Lq.op (v := .bool (decide (((k : Int)) < ((xs.length : Int))))) rfl rfl rfl (OpQ.lss rfl rfl rfl) ?_
    refine Lq.op (v := .bool (decide (((k : Int)) < ((xs.length : Int))))) rfl rfl rfl (OpQ.move rfl rfl) ?_
    refine Lq.bool fun b20 hg20 => ?_
    cases b20
    · skip
      replace hg20 := of_decide_eq_false hg20
      refine Lq.pass rfl rfl rfl ?_
      refine Lq.pass rfl rfl rfl ?_
      refine Lq.pass rfl rfl rfl ?_
      refine Lq.pass rfl rfl rfl ?_
      refine Lq.pass rfl rfl rfl ?_
      refine Lq.pass rfl rfl rfl ?_
      refine Lq.pass rfl rfl rfl ?_
      refine Lq.pass rfl rfl rfl ?_
      refine Lq.pass rfl rfl rfl ?_
      refine Lq.pass rfl rfl rfl ?_
      refine Lq.pass rfl rfl rfl ?_
      refine Lq.pass rfl rfl rfl ?_
      refine Lq.pass rfl rfl rfl ?_
      refine Lq.pass rfl rfl rfl ?_
      refine Lq.pass rfl rfl rfl ?_
      refine Lq.pass rfl rfl rfl ?_
      refine Lq.pass rfl rfl rfl ?_
      refine Lq.op (v := .bool false) rfl rfl rfl (OpQ.pickF rfl rfl rfl) ?_
      refine Lq.nil ?_
      refine Kt.onSub (e' := [(1, va), (3, vb), (4, .pointer (some ⟨p4, 0, none⟩)), (6, .pointer (some ⟨p6, 0, none⟩)), (9, .int .i64 ((k : Int))), (38, .bool false)]) (Sub.cons rfl (Sub.cons rfl (Sub.cons rfl (Sub.cons rfl (Sub.cons rfl (Sub.cons rfl Sub.nil)))))) ?_
      refine Wk.condF rfl ?_
      refine Wk.exit rfl ?_
      refine Kt.onSub (e' := [(9, .int .i64 ((k : Int)))]) (Sub.cons rfl Sub.nil) ?_
      refine Wk.seq ?_
      refine Wk.regionQ ?_
      refine Lq.op (v := .int .i64 ((k : Int))) rfl rfl rfl (OpQ.move rfl rfl) ?_
      refine Lq.op (v := .int .i64 ((k : Int))) rfl rfl rfl (OpQ.assign rfl rfl) ?_
      refine Lq.nil ?_
      refine Kt.onSub (e' := [(8, .int .i64 ((k : Int)))]) (Sub.cons rfl Sub.nil) ?_
      refine Wk.ret (Kt.end1 rfl rfl fun w' hw => ?_)
      -- ret 1: .int .i64 ((k : Int))
      exact ⟨ret_i (by first | exact (longI_at h15 (by omega) hall (by simpa [stillAt] using h38)).symm | (obtain rfl : k = xs.length := (by omega); exact (longI_all h15 hall).symm)), hw.below⟩
    · skip
      replace hg20 := of_decide_eq_true hg20
      refine Lq.op (v := vS a) rfl rfl rfl (OpQ.loadBox (cs := #[.int .i64 a.n, str a.set, str a.rel]) 1 rfl Tryd.isAgg26 rfl rfl Tryd.sizeOf26) ?_
      refine Lq.op (v := va) rfl rfl rfl (OpQ.move rfl rfl) ?_
      refine Lq.op (v := .int .i64 ((k : Int))) rfl rfl rfl (OpQ.move rfl rfl) ?_
      refine Lq.op (v := sTake va k) rfl rfl rfl (OpQ.takeRow (i := (k : Int)) rfl Tryd.runUnderlying31 Tryd.sizeOf3 rfl rfl (by omega) (by rw [ints_length]; omega) (fun w1 hw1 => Row.own hva hw1)) ?_
      refine Lq.op (v := vS b) rfl rfl rfl (OpQ.loadBox (cs := #[.int .i64 b.n, str b.set, str b.rel]) 0 rfl Tryd.isAgg26 rfl rfl Tryd.sizeOf26) ?_
      refine Lq.op (v := vb) rfl rfl rfl (OpQ.move rfl rfl) ?_
      refine Lq.op (v := .int .i64 ((k : Int))) rfl rfl rfl (OpQ.move rfl rfl) ?_
      refine Lq.op (v := sTake vb k) rfl rfl rfl (OpQ.takeRow (i := (k : Int)) rfl Tryd.runUnderlying31 Tryd.sizeOf3 rfl rfl (by omega) (by rw [ints_length]; omega) (fun w1 hw1 => Row.own hvb hw1)) ?_
      refine Lq.op (v := va) rfl rfl rfl (OpQ.move rfl rfl) ?_
      refine Lq.op (v := .int .i64 ((k : Int))) rfl rfl rfl (OpQ.move rfl rfl) ?_
      refine Lq.op (v := .pointer (some (sAt va ((k : Int))))) rfl rfl rfl (OpQ.atRow rfl Tryd.runUnderlying31 Tryd.sizeOf3 rfl rfl (by omega) (by rw [ints_length]; omega) (fun w1 hw1 => Row.own hva hw1)) ?_
      refine Lq.op (v := .int .i64 (xs.getD (((k : Int)).toNat) 0)) rfl rfl rfl (OpQ.load1 rfl Tryd.isAgg3 rfl (fun w1 hw1 => Ints.cell (Row.own hva hw1) (by omega) (by omega))) ?_
      refine Lq.op (v := vb) rfl rfl rfl (OpQ.move rfl rfl) ?_
      refine Lq.op (v := .int .i64 ((k : Int))) rfl rfl rfl (OpQ.move rfl rfl) ?_
      refine Lq.op (v := .pointer (some (sAt vb ((k : Int))))) rfl rfl rfl (OpQ.atRow rfl Tryd.runUnderlying31 Tryd.sizeOf3 rfl rfl (by omega) (by rw [ints_length]; omega) (fun w1 hw1 => Row.own hvb hw1)) ?_
      refine Lq.op (v := .int .i64 (ys.getD (((k : Int)).toNat) 0)) rfl rfl rfl (OpQ.load1 rfl Tryd.isAgg3 rfl (fun w1 hw1 => Ints.cell (Row.own hvb hw1) (by omega) (by omega))) ?_
      refine Lq.op (v := .bool (stillB a (xs.take k) b (ys.take k) (xs.getD (((k : Int)).toNat) 0) (ys.getD (((k : Int)).toNat) 0))) rfl rfl rfl (OpQ.call rfl Tryd.call81 rfl Own.stable (fun w1 hw1 => stillSame_ok a b (xs.take k) (ys.take k) (sTake va k) (sTake vb k) (xs.getD (((k : Int)).toNat) 0) (ys.getD (((k : Int)).toNat) 0) w1 (ha) (hb) ((Ints.take (Row.own hva hw1) k (by omega))) ((Ints.take (Row.own hvb hw1) k (by omega))) ((hA.take _)) ((hB.take _)) ((by first | (simp; done) | (simp; omega) | omega)) ((by first | (simp; done) | (simp; omega) | omega)) ((by first | assumption | exact St.Els.at (by assumption) (by omega) (by omega))) ((by first | assumption | exact St.Els.at (by assumption) (by omega) (by omega))))) ?_
      refine Lq.op (v := .bool (stillB a (xs.take k) b (ys.take k) (xs.getD (((k : Int)).toNat) 0) (ys.getD (((k : Int)).toNat) 0))) rfl rfl rfl (OpQ.pickT rfl rfl rfl) ?_
      refine Lq.nil ?_
      refine Kt.onSub (e' := [(1, va), (3, vb), (4, .pointer (some ⟨p4, 0, none⟩)), (6, .pointer (some ⟨p6, 0, none⟩)), (9, .int .i64 ((k : Int))), (38, .bool (stillB a (xs.take k) b (ys.take k) (xs.getD (((k : Int)).toNat) 0) (ys.getD (((k : Int)).toNat) 0)))]) (Sub.cons rfl (Sub.cons rfl (Sub.cons rfl (Sub.cons rfl (Sub.cons rfl (Sub.cons rfl Sub.nil)))))) ?_
      refine Wk.cond (b := stillB a (xs.take k) b (ys.take k) (xs.getD (((k : Int)).toNat) 0) (ys.getD (((k : Int)).toNat) 0)) rfl (fun h38 => ?_) (fun h38 => ?_)
      · skip
        refine Wk.skip ?_
        refine Kt.onSub (e' := [(1, va), (3, vb), (4, .pointer (some ⟨p4, 0, none⟩)), (6, .pointer (some ⟨p6, 0, none⟩)), (9, .int .i64 ((k : Int)))]) (Sub.cons rfl (Sub.cons rfl (Sub.cons rfl (Sub.cons rfl (Sub.cons rfl Sub.nil))))) ?_
        refine Wk.block ?_
        refine Wk.regionQ ?_
        refine Lq.op (v := .int .i64 ((k : Int))) rfl rfl rfl (OpQ.move rfl rfl) ?_
        refine Lq.op (v := .int .i64 (((k : Int)) + (1 : Int))) rfl rfl rfl (OpQ.add rfl rfl rfl (by omega) (by omega)) ?_
        refine Lq.op (v := .int .i64 (((k : Int)) + (1 : Int))) rfl rfl rfl (OpQ.assign rfl rfl) ?_
        refine Lq.nil ?_
        refine Kt.again (k + 1) ⟨by omega, fun i hi => (Nat.lt_succ_iff_lt_or_eq.1 hi).elim (hall i) (fun e => by subst e; simpa [stillAt] using h38)⟩ (by omega) (Sub.cons rfl (Sub.cons rfl (Sub.cons rfl (Sub.cons rfl (Sub.cons rfl Sub.nil))))) (fun _ h => h)
      · skip
        refine Wk.exit rfl ?_
        refine Kt.onSub (e' := [(9, .int .i64 ((k : Int)))]) (Sub.cons rfl Sub.nil) ?_
        refine Wk.seq ?_
        refine Wk.regionQ ?_
        refine Lq.op (v := .int .i64 ((k : Int))) rfl rfl rfl (OpQ.move rfl rfl) ?_
        refine Lq.op (v := .int .i64 ((k : Int))) rfl rfl rfl (OpQ.assign rfl rfl) ?_
        refine Lq.nil ?_
        refine Kt.onSub (e' := [(8, .int .i64 ((k : Int)))]) (Sub.cons rfl Sub.nil) ?_
        refine Wk.ret (Kt.end1 rfl rfl fun w' hw => ?_)
        -- ret 2: .int .i64 ((k : Int))
        exact ⟨ret_i (by first | exact (longI_at h15 (by omega) hall (by simpa [stillAt] using h38)).symm | (obtain rfl : k = xs.length := (by omega); exact (longI_all h15 hall).symm)), hw.below⟩

set_option maxHeartbeats 400000 in
/-- laws.toIntS -/
theorem toInt_ok (va : Value) (xs : List Int) (w : World) (hva : Ints w va xs) (hs : xs.length ≤ 1048576) :
    Calls Tryd.prog 22 [va].toArray w fun en w' => ∃ v, en = .returned v ∧ Below w.heap.size w w' ∧ NewRow w.heap.size 3 1 w' v xs.length (ints xs) := by
  refine fnStart (n := 22) (e := [(0, va)]) Tryd.func22 rfl rfl rfl rfl Ends.both ?_
  refine Wk.seq ?_
  refine Wk.regionQ ?_
  refine Lq.op (v := .slice none 0 0) rfl rfl rfl (OpQ.assign rfl rfl) ?_
  refine Lq.nil ?_
  refine Kt.onSub (e' := [(0, va)]) (Sub.cons rfl Sub.nil) ?_
  refine Wk.seq ?_
  refine Wk.region ?_
  refine Ll.op (v := va) rfl rfl rfl (OpQ.move rfl rfl) ?_
  refine Ll.op (v := .int .i64 ((xs.length : Int))) rfl rfl rfl (OpQ.lenRow rfl Tryd.runUnderlying31 rfl (ints_length _) (fun w1 hw1 => Row.own hva hw1)) ?_
  refine Ll.make (k := xs.length) Base.elem31 Tryd.zeroValue3 rfl rfl rfl rfl rfl (by omega) fun p7 hp7 => ?_
  rw [show madeCells (Value.cells (.int .i64 0)) (xs.length * 1) = (ints (List.replicate xs.length 0)).toArray from made_ints _]
  refine Ll.op (v := .slice (some ⟨p7, 0, none⟩) xs.length xs.length) rfl rfl rfl (OpQ.assign rfl rfl) ?_
  refine Ll.nil ?_
  refine Kt.onSub (e' := [(0, va), (3, .slice (some ⟨p7, 0, none⟩) xs.length xs.length)]) (Sub.cons rfl (Sub.cons rfl Sub.nil)) ?_
  refine Wk.seq ?_
  refine Wk.seq ?_
  refine Wk.regionQ ?_
  refine Lq.op (v := .int .i64 0) rfl rfl rfl (OpQ.assign rfl rfl) ?_
  refine Lq.nil ?_
  refine Kt.onSub (e' := [(0, va), (3, .slice (some ⟨p7, 0, none⟩) xs.length xs.length), (4, .int .i64 0)]) (Sub.cons rfl (Sub.cons rfl (Sub.cons rfl Sub.nil))) ?_
  refine Wk.block ?_
  refine Wk.loop (σ := Nat) (fun k => k ≤ xs.length) (fun k => [(0, va), (3, .slice (some ⟨p7, 0, none⟩) xs.length xs.length), (4, .int .i64 ((k : Int)))]) (fun k => Own w.heap.size w [(p7, .cells ((ints (xs.take k ++ List.replicate (xs.length - k) 0)).toArray) 3 (0, 0))]) (fun k => xs.length - k) (0) (by omega) (Sub.cons rfl (Sub.cons rfl (Sub.cons rfl Sub.nil))) (fun _ h => by simpa using h) ?_
  rintro k hk
  refine Wk.seq ?_
  refine Wk.seq ?_
  refine Wk.regionQ ?_
  refine Lq.op (v := .int .i64 ((k : Int))) rfl rfl rfl (OpQ.move rfl rfl) ?_
  refine Lq.op (v := va) rfl rfl rfl (OpQ.move rfl rfl) ?_
  refine Lq.op (v := .int .i64 ((xs.length : Int))) rfl rfl rfl (OpQ.lenRow rfl Tryd.runUnderlying31 rfl (ints_length _) (fun w1 hw1 => Row.own hva hw1)) ?_
  refine Lq.op (v := .bool (decide (((k : Int)) < ((xs.length : Int))))) rfl rfl rfl (OpQ.lss rfl rfl rfl) ?_
  refine Lq.nil ?_
  refine Kt.onSub (e' := [(0, va), (3, .slice (some ⟨p7, 0, none⟩) xs.length xs.length), (4, .int .i64 ((k : Int))), (11, .bool (decide (((k : Int)) < ((xs.length : Int)))))]) (Sub.cons rfl (Sub.cons rfl (Sub.cons rfl (Sub.cons rfl Sub.nil)))) ?_
  refine Wk.cond (b := decide (((k : Int)) < ((xs.length : Int)))) rfl (fun h11 => ?_) (fun h11 => ?_)
  · skip
    replace h11 := of_decide_eq_true h11
    refine Wk.skip ?_
    refine Kt.onSub (e' := [(0, va), (3, .slice (some ⟨p7, 0, none⟩) xs.length xs.length), (4, .int .i64 ((k : Int)))]) (Sub.cons rfl (Sub.cons rfl (Sub.cons rfl Sub.nil))) ?_
    refine Wk.seq ?_
    refine Wk.block ?_
    refine Wk.region ?_
    refine Ll.op (v := .slice (some ⟨p7, 0, none⟩) xs.length xs.length) rfl rfl rfl (OpQ.move rfl rfl) ?_
    refine Ll.op (v := .int .i64 ((k : Int))) rfl rfl rfl (OpQ.move rfl rfl) ?_
    refine Ll.op (v := va) rfl rfl rfl (OpQ.move rfl rfl) ?_
    refine Ll.op (v := .int .i64 ((k : Int))) rfl rfl rfl (OpQ.move rfl rfl) ?_
    refine Ll.op (v := .pointer (some (sAt va ((k : Int))))) rfl rfl rfl (OpQ.atRow rfl Tryd.runUnderlying31 Tryd.sizeOf3 rfl rfl (by omega) (by rw [ints_length]; omega) (fun w1 hw1 => Row.own hva hw1)) ?_
    refine Ll.op (v := .int .i64 (xs.getD (((k : Int)).toNat) 0)) rfl rfl rfl (OpQ.load1 rfl Tryd.isAgg3 rfl (fun w1 hw1 => Ints.cell (Row.own hva hw1) (by omega) (by omega))) ?_
    refine Ll.op (v := .pointer (some ⟨p7, 0 + ((k : Int)).toNat, none⟩)) rfl rfl rfl (OpQ.indexAddr1 rfl Tryd.runUnderlying31 Tryd.sizeOf3 rfl rfl (by omega) (by omega)) ?_
    refine Ll.store1 (v := .int .i64 (xs.getD (((k : Int)).toNat) 0)) (hs' := [(p7, .cells ((ints ((xs.take k ++ List.replicate (xs.length - k) 0).set (((k : Int)).toNat) (xs.getD (((k : Int)).toNat) 0))).toArray) 3 (0, 0))]) 0 rfl rfl rfl rfl rfl rfl Tryd.sizeOf3 rfl (by first | (simp; done) | (simp; omega) | omega) (by simp only [Nat.zero_add]; rw [ints_set]; rfl) ?_
    refine Ll.nil ?_
    refine Kt.onSub (e' := [(0, va), (3, .slice (some ⟨p7, 0, none⟩) xs.length xs.length), (4, .int .i64 ((k : Int)))]) (Sub.cons rfl (Sub.cons rfl (Sub.cons rfl Sub.nil))) ?_
    refine Wk.regionQ ?_
    refine Lq.op (v := .int .i64 ((k : Int))) rfl rfl rfl (OpQ.move rfl rfl) ?_
    refine Lq.op (v := .int .i64 (((k : Int)) + (1 : Int))) rfl rfl rfl (OpQ.add rfl rfl rfl (by omega) (by omega)) ?_
    refine Lq.op (v := .int .i64 (((k : Int)) + (1 : Int))) rfl rfl rfl (OpQ.assign rfl rfl) ?_
    refine Lq.nil ?_
    refine Kt.again (k + 1) (by omega) (by omega) (Sub.cons rfl (Sub.cons rfl (Sub.cons rfl Sub.nil))) (fun _ h => by rw [show xs.take (k + 1) ++ List.replicate (xs.length - (k + 1)) 0 = (xs.take k ++ List.replicate (xs.length - k) 0).set (((k : Int)).toNat) (xs.getD (((k : Int)).toNat) 0) from (by simp only [Int.toNat_natCast]; exact (rep_set (by omega)).symm)]; exact h)
  · skip
    replace h11 := of_decide_eq_false h11
    refine Wk.exit rfl ?_
    refine Kt.onSub (e' := [(3, .slice (some ⟨p7, 0, none⟩) xs.length xs.length)]) (Sub.cons rfl Sub.nil) ?_
    refine Wk.seq ?_
    refine Wk.regionQ ?_
    refine Lq.op (v := .slice (some ⟨p7, 0, none⟩) xs.length xs.length) rfl rfl rfl (OpQ.move rfl rfl) ?_
    refine Lq.op (v := .slice (some ⟨p7, 0, none⟩) xs.length xs.length) rfl rfl rfl (OpQ.assign rfl rfl) ?_
    refine Lq.nil ?_
    refine Kt.onSub (e' := [(2, .slice (some ⟨p7, 0, none⟩) xs.length xs.length)]) (Sub.cons rfl Sub.nil) ?_
    refine Wk.ret (Kt.end1 rfl rfl fun w' hw => ?_)
    -- ret 0: .slice (some ⟨p7, 0, none⟩) xs.length xs.length
    obtain rfl : k = xs.length := by omega
    exact ⟨_, rfl, hw.below, hw.newRow (i := 0) (n := xs.length) rfl (by simp) (by omega) (by simp [List.take_of_length_le])⟩

end Go.Proofs.YtcanofailfbllaaDoor
